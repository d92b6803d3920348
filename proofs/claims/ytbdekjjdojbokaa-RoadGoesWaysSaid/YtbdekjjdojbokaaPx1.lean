/- Functions of this seat as plain Lean functions, with proofs that the Go code comes to just their answers, or what stands between them and a law's statement; no conditions. (Laid by a program of this session, out of the kit's print.) -/
import Derived.Test.YtbdekjjdojbokaaPx0
namespace Go.Proofs.Ytbdekjjdojbokaa.P
open Go.RowKit Go.Proofs.YtbdekjjdojbokaaW.PrintWords Go.Proofs.YtbdekjjdojbokaaW.PrintLast Go.Proofs.YtbdekjjdojbokaaW.PrintMore
attribute [local go_sem] max2_int min2_int max_two min_two max_three min_three max_four min_four   -- for this text's walks alone
set_option linter.unusedVariables false
set_option linter.unusedSimpArgs false

/-! ### hinterlandlaw04_large: function 15 -/
def hinterlandlaw04_large.f (a0_0 : Int) (a0_1 : Int) (l0_2 : List Int) (l0_3 : List Int) : Option (Bool) := if (l0_2.length : Int) > 4000 then (some true) else (some (decide ((l0_3.length : Int) > 4000)))
set_option maxHeartbeats 8000000 in
set_option maxRecDepth 100000 in
theorem hinterlandlaw04_large.calls (a0_0 : Int) (a0_1 : Int) (A0_2 : Option Addr) (c0_2 : Nat) (l0_2 : List Int) (A0_3 : Option Addr) (c0_3 : Nat) (l0_3 : List Int) (r : Bool) (w : World) (hr0_2 : Kd.C (Kd.int .i64) w A0_2 l0_2.length l0_2) (hc0_2 : l0_2.length ≤ c0_2) (hr0_3 : Kd.C (Kd.int .i64) w A0_3 l0_3.length l0_3) (hc0_3 : l0_3.length ≤ c0_3) (h : hinterlandlaw04_large.f a0_0 a0_1 l0_2 l0_3 = some r) :
  Calls Try.prog 15 #[.agg #[.int .i64 a0_0,.int .i64 a0_1,.slice A0_2 l0_2.length c0_2,.slice A0_3 l0_3.length c0_3]] w fun e w' => e = .returned (.bool r) ∧ Below w.heap.size w w':=by
 have hu24:=Try.underlying24
 have HR0_2:=Aside0.mk hr0_2
 have HC0_2:=Aside0.mk hc0_2
 clear hr0_2 hc0_2
 have HR0_3:=Aside0.mk hr0_3
 have HC0_3:=Aside0.mk hc0_3
 clear hr0_3 hc0_3
 have HB:=Aside0.mk (Below.refl w.heap.size w)
 have H : (if (l0_2.length : Int) > 4000 then (some true) else (some (decide ((l0_3.length : Int) > 4000)))) = some r:=h
 clear h
 by_cases c2 : (l0_2.length : Int) > 4000
 ·rw [if_pos c2] at H
  have c2b0 : decide (4000 < (l0_2.length : Int)) = true:=decide_eq_true c2
  have c2b1 : decide (4000 < l0_2.length) = true:=decide_eq_true (by omega)
  clear c2
  obtain rfl:=Option.some.inj H
  go_enter Try.func15,Try.ntmps15
  go_wp2_with (first|((with_reducible refine gate_dst (N:=1) rfl ?_);(try (refine gate_guard (by rfl) ?_;dsimp only));refine box_ev (N:=1) (cs:=#[.int .i64 a0_0,.int .i64 a0_1,.slice A0_2 l0_2.length c0_2,.slice A0_3 l0_3.length c0_3]) (t:=24) ?_;intro gb101 hg w3 hbox hb;have BK101:=Aside0.mk (hbox);have GW101 : Aside0 (w.heap.size ≤ gb101):=gsz hg;have GE101:=GW101;replace HB:=Aside0.mk (below_step (hb_) hb);clear hb hbox hg;obtain ⟨hcz4_0,hcz4_1,hcz4_2,hcz4_3,hfz4_0,hfz4_1,hfz4_2,hfz4_3⟩:=cells4 BK101.out))
  go_ret
  exact ⟨by first|rfl|(simp [errW_none,errW_some] <;> rfl)|(simp [*,errW_none,errW_some] <;> rfl),hb_⟩
 ·rw [if_neg c2] at H
  have c2b0 : decide (4000 < (l0_2.length : Int)) = false:=decide_eq_false c2
  have c2b1 : decide (4000 < l0_2.length) = false:=decide_eq_false (by omega)
  clear c2
  obtain rfl:=Option.some.inj H
  go_enter Try.func15,Try.ntmps15
  go_wp2_with (first|((with_reducible refine gate_dst (N:=1) rfl ?_);(try (refine gate_guard (by rfl) ?_;dsimp only));refine box_ev (N:=1) (cs:=#[.int .i64 a0_0,.int .i64 a0_1,.slice A0_2 l0_2.length c0_2,.slice A0_3 l0_3.length c0_3]) (t:=24) ?_;intro gb101 hg w5 hbox hb;have BK101:=Aside0.mk (hbox);have GW101 : Aside0 (w.heap.size ≤ gb101):=gsz hg;have GE101:=GW101;replace HB:=Aside0.mk (below_step (hb_) hb);clear hb hbox hg;obtain ⟨hcz6_0,hcz6_1,hcz6_2,hcz6_3,hfz6_0,hfz6_1,hfz6_2,hfz6_3⟩:=cells4 BK101.out))
  go_ret
  exact ⟨by first|rfl|(simp [errW_none,errW_some] <;> rfl)|(simp [*,errW_none,errW_some] <;> rfl),hb_⟩

/-! ### road_Validate: function 17 -/
mutual
def road_Validate.j0 : Nat → Bool → Int → Int → List Int → List Int → Option (Int)
 | 0,_,_,_,_,_ => none
 | k + 1,x45,x103000,x103001,x103002,x103003 => if x45 = true then (some 1) else (road_Validate.l0 k (x103002.length : Int) 0 x103000 x103001 x103002 x103003)
def road_Validate.l0 : Nat → Int → Int → Int → Int → List Int → List Int → Option (Int)
 | 0,_,_,_,_,_,_ => none
 | k + 1,x48,x49,x103000,x103001,x103002,x103003 => if x49 < x48 then (if 0 ≤ x49 then (if x49 < (x103002.length : Int) then (if (rd x103002 x49) < 0 then (some 1) else (if (rd x103002 x49) > 15 then (some 1) else (if x49 < (x103003.length : Int) then (if (rd x103003 x49) < 0 then (some 1) else (if (rd x103003 x49) > 2 then (some 1) else (road_Validate.l0 k x48 (wrap64 (x49 + 1)) x103000 x103001 x103002 x103003))) else (none)))) else (none)) else (none)) else (road_Validate.l1 k x103003 (x103003.length : Int) 0 x103000 x103001 x103002 x103003)
def road_Validate.l1 : Nat → List Int → Int → Int → Int → Int → List Int → List Int → Option (Int)
 | 0,_,_,_,_,_,_,_ => none
 | k + 1,x84,x85,x86,x103000,x103001,x103002,x103003 => if x86 < x85 then (if 0 ≤ x86 then (if x86 < (x84.length : Int) then (if (rd x84 x86) = 0 then (road_Validate.l1 k x84 x85 (wrap64 (x86 + 1)) x103000 x103001 x103002 x103003) else (if x86 < (x103002.length : Int) then (if (rd x103002 x86) = 5 then (road_Validate.l1 k x84 x85 (wrap64 (x86 + 1)) x103000 x103001 x103002 x103003) else (if (rd x103002 x86) = 10 then (road_Validate.l1 k x84 x85 (wrap64 (x86 + 1)) x103000 x103001 x103002 x103003) else (some 9))) else (none))) else (none)) else (none)) else (some 0)
end
def road_Validate.f (k : Nat) (a0_0 : Int) (a0_1 : Int) (l0_2 : List Int) (l0_3 : List Int) : Option (Int) := if a0_0 < 4 then (road_Validate.j0 k true a0_0 a0_1 l0_2 l0_3) else (if a0_0 > 32 then (road_Validate.j0 k true a0_0 a0_1 l0_2 l0_3) else (if a0_1 < 4 then (road_Validate.j0 k true a0_0 a0_1 l0_2 l0_3) else (if a0_1 > 32 then (road_Validate.j0 k true a0_0 a0_1 l0_2 l0_3) else (if (l0_2.length : Int) = (wrap64 (a0_0 * a0_1)) then (road_Validate.j0 k ((l0_3.length : Int) != (wrap64 (a0_0 * a0_1))) a0_0 a0_1 l0_2 l0_3) else (road_Validate.j0 k true a0_0 a0_1 l0_2 l0_3)))))
theorem road_Validate.mono_l : ∀ k, (∀ y0 y1 y2 y3 y4, LeO (road_Validate.j0 k y0 y1 y2 y3 y4) (road_Validate.j0 (k + 1) y0 y1 y2 y3 y4)) ∧ (∀ y0 y1 y2 y3 y4 y5, LeO (road_Validate.l0 k y0 y1 y2 y3 y4 y5) (road_Validate.l0 (k + 1) y0 y1 y2 y3 y4 y5)) ∧ (∀ y0 y1 y2 y3 y4 y5 y6, LeO (road_Validate.l1 k y0 y1 y2 y3 y4 y5 y6) (road_Validate.l1 (k + 1) y0 y1 y2 y3 y4 y5 y6))
 | 0 => ⟨fun _ _ _ _ _ r h => by simp [road_Validate.j0] at h,fun _ _ _ _ _ _ r h => by simp [road_Validate.l0] at h,fun _ _ _ _ _ _ _ r h => by simp [road_Validate.l1] at h⟩
 | k + 1 => by
  obtain ⟨ih0,ih1,ih2⟩:=road_Validate.mono_l k
  refine ⟨?_,?_,?_⟩
  ·intro y0 y1 y2 y3 y4
   unfold road_Validate.j0
   repeat' first
   | (with_reducible exact ih0 _ _ _ _ _)
   | (with_reducible exact ih1 _ _ _ _ _ _)
   | (with_reducible exact ih2 _ _ _ _ _ _ _)
   | (with_reducible exact LeO.refl _)
   | (with_reducible exact LeO.none _)
   | (with_reducible refine LeO.ite ?_ ?_)
   | (with_reducible refine LeO.bind ?_ (fun _ => ?_))
   | exact ih0 _ _ _ _ _
   | exact ih1 _ _ _ _ _ _
   | exact ih2 _ _ _ _ _ _ _
   | exact LeO.none _
   | refine LeO.ite ?_ ?_
   | refine LeO.bind ?_ (fun _ => ?_)
  ·intro y0 y1 y2 y3 y4 y5
   unfold road_Validate.l0
   repeat' first
   | (with_reducible exact ih0 _ _ _ _ _)
   | (with_reducible exact ih1 _ _ _ _ _ _)
   | (with_reducible exact ih2 _ _ _ _ _ _ _)
   | (with_reducible exact LeO.refl _)
   | (with_reducible exact LeO.none _)
   | (with_reducible refine LeO.ite ?_ ?_)
   | (with_reducible refine LeO.bind ?_ (fun _ => ?_))
   | exact ih0 _ _ _ _ _
   | exact ih1 _ _ _ _ _ _
   | exact ih2 _ _ _ _ _ _ _
   | exact LeO.none _
   | refine LeO.ite ?_ ?_
   | refine LeO.bind ?_ (fun _ => ?_)
  ·intro y0 y1 y2 y3 y4 y5 y6
   unfold road_Validate.l1
   repeat' first
   | (with_reducible exact ih0 _ _ _ _ _)
   | (with_reducible exact ih1 _ _ _ _ _ _)
   | (with_reducible exact ih2 _ _ _ _ _ _ _)
   | (with_reducible exact LeO.refl _)
   | (with_reducible exact LeO.none _)
   | (with_reducible refine LeO.ite ?_ ?_)
   | (with_reducible refine LeO.bind ?_ (fun _ => ?_))
   | exact ih0 _ _ _ _ _
   | exact ih1 _ _ _ _ _ _
   | exact ih2 _ _ _ _ _ _ _
   | exact LeO.none _
   | refine LeO.ite ?_ ?_
   | refine LeO.bind ?_ (fun _ => ?_)
theorem road_Validate.mono : ∀ a0 a1 a2 a3 k, LeO (road_Validate.f k a0 a1 a2 a3) (road_Validate.f (k + 1) a0 a1 a2 a3) := by
 intro a0 a1 a2 a3 k
 obtain ⟨ih0,ih1,ih2⟩:=road_Validate.mono_l k
 unfold road_Validate.f
 repeat' first
   | (with_reducible exact ih0 _ _ _ _ _)
   | (with_reducible exact ih1 _ _ _ _ _ _)
   | (with_reducible exact ih2 _ _ _ _ _ _ _)
   | (with_reducible exact LeO.refl _)
   | (with_reducible exact LeO.none _)
   | (with_reducible refine LeO.ite ?_ ?_)
   | (with_reducible refine LeO.bind ?_ (fun _ => ?_))
   | exact ih0 _ _ _ _ _
   | exact ih1 _ _ _ _ _ _
   | exact ih2 _ _ _ _ _ _ _
   | exact LeO.none _
   | refine LeO.ite ?_ ?_
   | refine LeO.bind ?_ (fun _ => ?_)
set_option maxHeartbeats 8000000 in
set_option maxRecDepth 100000 in
theorem road_Validate.calls (k : Nat) (a0_0 : Int) (a0_1 : Int) (A0_2 : Option Addr) (c0_2 : Nat) (l0_2 : List Int) (A0_3 : Option Addr) (c0_3 : Nat) (l0_3 : List Int) (r : Int) (w : World) (hr0_2 : Kd.C (Kd.int .i64) w A0_2 l0_2.length l0_2) (hc0_2 : l0_2.length ≤ c0_2) (hr0_3 : Kd.C (Kd.int .i64) w A0_3 l0_3.length l0_3) (hc0_3 : l0_3.length ≤ c0_3) (h : road_Validate.f k a0_0 a0_1 l0_2 l0_3 = some r) :
  Calls Try.prog 17 #[.agg #[.int .i64 a0_0,.int .i64 a0_1,.slice A0_2 l0_2.length c0_2,.slice A0_3 l0_3.length c0_3]] w fun e w' => e = .returned (.int .i64 r) ∧ Below w.heap.size w w':=by
 have hu24:=Try.underlying24
 have HR0_2:=Aside0.mk hr0_2
 have HC0_2:=Aside0.mk hc0_2
 clear hr0_2 hc0_2
 have HR0_3:=Aside0.mk hr0_3
 have HC0_3:=Aside0.mk hc0_3
 clear hr0_3 hc0_3
 have HB:=Aside0.mk (Below.refl w.heap.size w)
 have H : (if a0_0 < 4 then (road_Validate.j0 k true a0_0 a0_1 l0_2 l0_3) else (if a0_0 > 32 then (road_Validate.j0 k true a0_0 a0_1 l0_2 l0_3) else (if a0_1 < 4 then (road_Validate.j0 k true a0_0 a0_1 l0_2 l0_3) else (if a0_1 > 32 then (road_Validate.j0 k true a0_0 a0_1 l0_2 l0_3) else (if (l0_2.length : Int) = (wrap64 (a0_0 * a0_1)) then (road_Validate.j0 k ((l0_3.length : Int) != (wrap64 (a0_0 * a0_1))) a0_0 a0_1 l0_2 l0_3) else (road_Validate.j0 k true a0_0 a0_1 l0_2 l0_3)))))) = some r:=h
 clear h
 have HC2:=Aside0.mk H
 clear H
 go_enter Try.func17,Try.ntmps17
 go_upto_region 1 with (first|((with_reducible refine gate_dst (N:=1) rfl ?_);(try (refine gate_guard (by rfl) ?_;dsimp only));refine box_ev (N:=1) (cs:=#[.int .i64 a0_0,.int .i64 a0_1,.slice A0_2 l0_2.length c0_2,.slice A0_3 l0_3.length c0_3]) (t:=24) ?_;intro gb102 hg w3 hbox hb;have BK102:=Aside0.mk (hbox);have GW102 : Aside0 (w.heap.size ≤ gb102):=gsz hg;have GE102:=GW102;replace HB:=Aside0.mk (below_step (hb_) hb);clear hb hbox hg))
 (try simp only [Act.put,List.setIfInBounds_toArray,List.set_cons_zero,List.set_cons_succ])
 go_cut [45] (fun v45 wc => ∃ (kq : Nat) (x45_1 : Bool),v45 = .bool x45_1 ∧ Aside0 (road_Validate.j0 kq x45_1 a0_0 a0_1 l0_2 l0_3 = some r) ∧ Aside0 (kq ≤ k) ∧ Aside0 (wc.heap[gb102]? = some (.cells #[.int .i64 a0_0,.int .i64 a0_1,(.slice A0_2 l0_2.length c0_2),(.slice A0_3 l0_3.length c0_3)] 24 (0,0))) ∧ Aside0 (Below w.heap.size w wc))
 case first =>
  have H:=HC2.out
  clear HC2
  by_cases c4 : a0_0 < 4
  ·rw [if_pos c4] at H
   have c4b0 : decide (a0_0 < 4) = true:=decide_eq_true c4
   clear c4
   (first|rw [c4b0]|(simp only [i64_w,i32_w];rw [c4b0])|skip)
   have H':=Aside0.mk H
   clear H
   obtain ⟨hcz5_0,hcz5_1,hcz5_2,hcz5_3,hfz5_0,hfz5_1,hfz5_2,hfz5_3⟩:=cells4 BK102.out
   go_wp2
   go_meet
   case rel => exact ⟨_,(true),(by first|rfl|(simp;done)|(simp [*];done)),H',⟨by first|omega|exact Nat.le_refl _⟩,⟨blk_up BK102.out⟩,⟨hb_⟩⟩
  rw [if_neg c4] at H
  have c4b0 : decide (a0_0 < 4) = false:=decide_eq_false c4
  clear c4
  (first|rw [c4b0]|(simp only [i64_w,i32_w];rw [c4b0])|skip)
  by_cases c6 : a0_0 > 32
  ·rw [if_pos c6] at H
   have c6b0 : decide (32 < a0_0) = true:=decide_eq_true c6
   clear c6
   have H':=Aside0.mk H
   clear H
   obtain ⟨hcz7_0,hcz7_1,hcz7_2,hcz7_3,hfz7_0,hfz7_1,hfz7_2,hfz7_3⟩:=cells4 BK102.out
   go_wp2
   go_meet
   case rel => exact ⟨_,(true),(by first|rfl|(simp;done)|(simp [*];done)),H',⟨by first|omega|exact Nat.le_refl _⟩,⟨blk_up BK102.out⟩,⟨hb_⟩⟩
  rw [if_neg c6] at H
  have c6b0 : decide (32 < a0_0) = false:=decide_eq_false c6
  clear c6
  by_cases c8 : a0_1 < 4
  ·rw [if_pos c8] at H
   have c8b0 : decide (a0_1 < 4) = true:=decide_eq_true c8
   clear c8
   have H':=Aside0.mk H
   clear H
   obtain ⟨hcz9_0,hcz9_1,hcz9_2,hcz9_3,hfz9_0,hfz9_1,hfz9_2,hfz9_3⟩:=cells4 BK102.out
   go_wp2
   go_meet
   case rel => exact ⟨_,(true),(by first|rfl|(simp;done)|(simp [*];done)),H',⟨by first|omega|exact Nat.le_refl _⟩,⟨blk_up BK102.out⟩,⟨hb_⟩⟩
  rw [if_neg c8] at H
  have c8b0 : decide (a0_1 < 4) = false:=decide_eq_false c8
  clear c8
  by_cases c10 : a0_1 > 32
  ·rw [if_pos c10] at H
   have c10b0 : decide (32 < a0_1) = true:=decide_eq_true c10
   clear c10
   have H':=Aside0.mk H
   clear H
   obtain ⟨hcz11_0,hcz11_1,hcz11_2,hcz11_3,hfz11_0,hfz11_1,hfz11_2,hfz11_3⟩:=cells4 BK102.out
   go_wp2
   go_meet
   case rel => exact ⟨_,(true),(by first|rfl|(simp;done)|(simp [*];done)),H',⟨by first|omega|exact Nat.le_refl _⟩,⟨blk_up BK102.out⟩,⟨hb_⟩⟩
  ·rw [if_neg c10] at H
   have c10b0 : decide (32 < a0_1) = false:=decide_eq_false c10
   clear c10
   by_cases c12 : (l0_2.length : Int) = (wrap64 (a0_0 * a0_1))
   ·rw [if_pos c12] at H
    have c12b0 : ((l0_2.length : Int) == (wrap64 (a0_0 * a0_1))) = true:=beq_iff_eq.mpr c12
    have c12b1 : ((l0_2.length : Int) != (wrap64 (a0_0 * a0_1))) = false:=bne_eq_false_iff_eq.mpr c12
    clear c12
    have H':=Aside0.mk H
    clear H
    obtain ⟨hcz13_0,hcz13_1,hcz13_2,hcz13_3,hfz13_0,hfz13_1,hfz13_2,hfz13_3⟩:=cells4 BK102.out
    go_wp2
    go_meet
    case rel => exact ⟨_,(((l0_3.length : Int) != (wrap64 (a0_0 * a0_1)))),(by first|rfl|(simp;done)|(simp [*];done)),H',⟨by first|omega|exact Nat.le_refl _⟩,⟨blk_up BK102.out⟩,⟨hb_⟩⟩
   ·rw [if_neg c12] at H
    have c12b0 : ((l0_2.length : Int) == (wrap64 (a0_0 * a0_1))) = false:=beq_eq_false_iff_ne.mpr c12
    have c12b1 : ((l0_2.length : Int) != (wrap64 (a0_0 * a0_1))) = true:=bne_iff_ne.mpr c12
    have H':=Aside0.mk H
    clear H
    obtain ⟨hcz14_0,hcz14_1,hcz14_2,hcz14_3,hfz14_0,hfz14_1,hfz14_2,hfz14_3⟩:=cells4 BK102.out
    go_wp2
    go_meet
    case rel => exact ⟨_,(true),(by first|rfl|(simp;done)|(simp [*];done)),H',⟨by first|omega|exact Nat.le_refl _⟩,⟨blk_up BK102.out⟩,⟨hb_⟩⟩
 case rest =>
  clear HC2
  obtain ⟨kq,x45_1,rfl,HA,HJ1,BK102,HB⟩:=hcut
  cases kq with
  | zero => exact absurd HA.out (by simp [road_Validate.j0])
  | succ kj1 =>
   have H:=HA.out
   clear HA
   simp only [road_Validate.j0] at H
   by_cases c15 : x45_1 = true
   ·subst c15
    have H1 : (some 1) = some r:=by rw [if_pos rfl] at H;exact H
    clear H
    have H:=H1
    clear H1
    obtain rfl:=Option.some.inj H
    go_wp2
    go_ret
    exact ⟨by first|rfl|(simp [errW_none,errW_some] <;> rfl)|(simp [*,errW_none,errW_some] <;> rfl),hb_⟩
   ·replace c15:=Bool.eq_false_iff.mpr c15
    subst c15
    have H1 : (road_Validate.l0 kj1 (l0_2.length : Int) 0 a0_0 a0_1 l0_2 l0_3) = some r:=by rw [if_neg (show ¬ (false = true) by decide)] at H;exact H
    clear H
    have H:=H1
    clear H1
    have H':=Aside0.mk H
    clear H
    obtain ⟨hcz16_0,hcz16_1,hcz16_2,hcz16_3,hfz16_0,hfz16_1,hfz16_2,hfz16_3⟩:=cells4 BK102.out
    go_wp2
    go_loopg [49] kj1 (fun kq v49 w' => ∃ (x49_2 : Int),v49 = .int .i64 x49_2 ∧ Aside0 (road_Validate.l0 kq (l0_2.length : Int) x49_2 a0_0 a0_1 l0_2 l0_3 = some r) ∧ Aside0 (kq ≤ kj1) ∧ Aside0 (w'.heap[gb102]? = some (.cells #[.int .i64 a0_0,.int .i64 a0_1,(.slice A0_2 l0_2.length c0_2),(.slice A0_3 l0_3.length c0_3)] 24 (0,0))) ∧ Aside0 (Below w.heap.size w w'))
    case atStart => exact ⟨(0),(by first|rfl|(simp;done)|(simp [*];done)),H',⟨Nat.le_refl _⟩,⟨blk_up BK102.out⟩,⟨hb_⟩⟩
    case round =>
     clear H'
     obtain ⟨x49_2,rfl,HA,HK2,BK102,HB⟩:=hrel
     cases gk with
     | zero => exact absurd HA.out (by simp [road_Validate.l0])
     | succ k2 =>
      have H:=HA.out
      clear HA
      simp only [road_Validate.l0] at H
      by_cases c17 : x49_2 < (l0_2.length : Int)
      rotate_left
      ·rw [if_neg c17] at H
       have c17b0 : decide (x49_2 < (l0_2.length : Int)) = false:=decide_eq_false c17
       clear c17
       have H':=Aside0.mk H
       clear H
       obtain ⟨hcz30_0,hcz30_1,hcz30_2,hcz30_3,hfz30_0,hfz30_1,hfz30_2,hfz30_3⟩:=cells4 BK102.out
       go_wp2
       go_loopg [86] k2 (fun kq v86 w' => ∃ (x86_3 : Int),v86 = .int .i64 x86_3 ∧ Aside0 (road_Validate.l1 kq l0_3 (l0_3.length : Int) x86_3 a0_0 a0_1 l0_2 l0_3 = some r) ∧ Aside0 (kq ≤ k2) ∧ Aside0 (w'.heap[gb102]? = some (.cells #[.int .i64 a0_0,.int .i64 a0_1,(.slice A0_2 l0_2.length c0_2),(.slice A0_3 l0_3.length c0_3)] 24 (0,0))) ∧ Aside0 (Below w.heap.size w w'))
       case atStart => exact ⟨(0),(by first|rfl|(simp;done)|(simp [*];done)),H',⟨Nat.le_refl _⟩,⟨blk_up BK102.out⟩,⟨hb_⟩⟩
       case round =>
        clear H'
        obtain ⟨x86_3,rfl,HA,HK3,BK102,HB⟩:=hrel
        cases gk with
        | zero => exact absurd HA.out (by simp [road_Validate.l1])
        | succ k3 =>
         have H:=HA.out
         clear HA
         simp only [road_Validate.l1] at H
         by_cases c31 : x86_3 < (l0_3.length : Int)
         rotate_left
         ·rw [if_neg c31] at H
          have c31b0 : decide (x86_3 < (l0_3.length : Int)) = false:=decide_eq_false c31
          clear c31
          obtain rfl:=Option.some.inj H
          go_wp2
          go_ret
          exact ⟨by first|rfl|(simp [errW_none,errW_some] <;> rfl)|(simp [*,errW_none,errW_some] <;> rfl),hb_⟩
         rw [if_pos c31] at H
         have c31b0 : decide (x86_3 < (l0_3.length : Int)) = true:=decide_eq_true c31
         clear c31
         replace H:=ifp_ H;obtain ⟨c32,H⟩:=H
         have c32b0 : decide (0 ≤ x86_3) = true:=decide_eq_true c32
         clear c32
         replace H:=ifp_ H;obtain ⟨c33,H⟩:=H
         have c33b0 : decide (x86_3 < (l0_3.length : Int)) = true:=decide_eq_true c33
         clear c33
         by_cases c34 : (rd l0_3 x86_3) = 0
         ·rw [if_pos c34] at H
          have c34b0 : ((rd l0_3 x86_3) == 0) = true:=beq_iff_eq.mpr c34
          have c34b1 : ((rd l0_3 x86_3) != 0) = false:=bne_eq_false_iff_eq.mpr c34
          clear c34
          have H':=Aside0.mk H
          clear H
          have p107 : 0 ≤ (x86_3 : Int):=of_decide_eq_true (by first|(with_reducible assumption)|assumption)
          have q107 : x86_3 < (l0_3.length : Int):=of_decide_eq_true (by first|(with_reducible assumption)|assumption)
          obtain ⟨ad107,e107,hx107_0⟩:=Kd.at_int HR0_3.out x86_3 p107 q107
          cases e107
          replace hx107_0:=(HB.out.cell (World.block_lt_of_cell? w _ hx107_0)).trans hx107_0
          replace p107:=eq_true p107
          replace q107:=eq_true q107
          go_wp2
          go_roundg k3
          case measure => have:=HJ1.out;have:=HK2.out;have:=HK3.out;omega
          case rel => exact ⟨(wrap64 (x86_3 + 1)),(by first|rfl|(simp;done)|(simp [*];done)),H',⟨by have:=HJ1.out;have:=HK2.out;have:=HK3.out;omega⟩,⟨blk_up BK102.out⟩,⟨hb_⟩⟩
         rw [if_neg c34] at H
         have c34b0 : ((rd l0_3 x86_3) == 0) = false:=beq_eq_false_iff_ne.mpr c34
         have c34b1 : ((rd l0_3 x86_3) != 0) = true:=bne_iff_ne.mpr c34
         replace H:=ifp_ H;obtain ⟨c35,H⟩:=H
         have c35b0 : decide (x86_3 < (l0_2.length : Int)) = true:=decide_eq_true c35
         clear c35
         by_cases c36 : (rd l0_2 x86_3) = 5
         ·rw [if_pos c36] at H
          have c36b0 : ((rd l0_2 x86_3) == 5) = true:=beq_iff_eq.mpr c36
          have c36b1 : ((rd l0_2 x86_3) != 5) = false:=bne_eq_false_iff_eq.mpr c36
          clear c36
          have H':=Aside0.mk H
          clear H
          have p107 : 0 ≤ (x86_3 : Int):=of_decide_eq_true (by first|(with_reducible assumption)|assumption)
          have q107 : x86_3 < (l0_3.length : Int):=of_decide_eq_true (by first|(with_reducible assumption)|assumption)
          obtain ⟨ad107,e107,hx107_0⟩:=Kd.at_int HR0_3.out x86_3 p107 q107
          cases e107
          replace hx107_0:=(HB.out.cell (World.block_lt_of_cell? w _ hx107_0)).trans hx107_0
          replace p107:=eq_true p107
          replace q107:=eq_true q107
          obtain ⟨hcz37_0,hcz37_1,hcz37_2,hcz37_3,hfz37_0,hfz37_1,hfz37_2,hfz37_3⟩:=cells4 BK102.out
          have p108 : 0 ≤ (x86_3 : Int):=of_decide_eq_true (by first|(with_reducible assumption)|assumption)
          have q108 : x86_3 < (l0_2.length : Int):=of_decide_eq_true (by first|(with_reducible assumption)|assumption)
          obtain ⟨ad108,e108,hx108_0⟩:=Kd.at_int HR0_2.out x86_3 p108 q108
          cases e108
          replace hx108_0:=(HB.out.cell (World.block_lt_of_cell? w _ hx108_0)).trans hx108_0
          replace p108:=eq_true p108
          replace q108:=eq_true q108
          go_wp2
          go_roundg k3
          case measure => have:=HJ1.out;have:=HK2.out;have:=HK3.out;omega
          case rel => exact ⟨(wrap64 (x86_3 + 1)),(by first|rfl|(simp;done)|(simp [*];done)),H',⟨by have:=HJ1.out;have:=HK2.out;have:=HK3.out;omega⟩,⟨blk_up BK102.out⟩,⟨hb_⟩⟩
         rw [if_neg c36] at H
         have c36b0 : ((rd l0_2 x86_3) == 5) = false:=beq_eq_false_iff_ne.mpr c36
         have c36b1 : ((rd l0_2 x86_3) != 5) = true:=bne_iff_ne.mpr c36
         by_cases c38 : (rd l0_2 x86_3) = 10
         ·rw [if_pos c38] at H
          have c38b0 : ((rd l0_2 x86_3) == 10) = true:=beq_iff_eq.mpr c38
          have c38b1 : ((rd l0_2 x86_3) != 10) = false:=bne_eq_false_iff_eq.mpr c38
          clear c38
          have H':=Aside0.mk H
          clear H
          have p107 : 0 ≤ (x86_3 : Int):=of_decide_eq_true (by first|(with_reducible assumption)|assumption)
          have q107 : x86_3 < (l0_3.length : Int):=of_decide_eq_true (by first|(with_reducible assumption)|assumption)
          obtain ⟨ad107,e107,hx107_0⟩:=Kd.at_int HR0_3.out x86_3 p107 q107
          cases e107
          replace hx107_0:=(HB.out.cell (World.block_lt_of_cell? w _ hx107_0)).trans hx107_0
          replace p107:=eq_true p107
          replace q107:=eq_true q107
          obtain ⟨hcz39_0,hcz39_1,hcz39_2,hcz39_3,hfz39_0,hfz39_1,hfz39_2,hfz39_3⟩:=cells4 BK102.out
          have p108 : 0 ≤ (x86_3 : Int):=of_decide_eq_true (by first|(with_reducible assumption)|assumption)
          have q108 : x86_3 < (l0_2.length : Int):=of_decide_eq_true (by first|(with_reducible assumption)|assumption)
          obtain ⟨ad108,e108,hx108_0⟩:=Kd.at_int HR0_2.out x86_3 p108 q108
          cases e108
          replace hx108_0:=(HB.out.cell (World.block_lt_of_cell? w _ hx108_0)).trans hx108_0
          replace p108:=eq_true p108
          replace q108:=eq_true q108
          have p109 : 0 ≤ (x86_3 : Int):=of_decide_eq_true (by first|(with_reducible assumption)|assumption)
          have q109 : x86_3 < (l0_2.length : Int):=of_decide_eq_true (by first|(with_reducible assumption)|assumption)
          obtain ⟨ad109,e109,hx109_0⟩:=Kd.at_int HR0_2.out x86_3 p109 q109
          obtain rfl : ad108 = ad109:=(by injection e109)
          replace hx109_0:=(HB.out.cell (World.block_lt_of_cell? w _ hx109_0)).trans hx109_0
          replace p109:=eq_true p109
          replace q109:=eq_true q109
          go_wp2
          go_roundg k3
          case measure => have:=HJ1.out;have:=HK2.out;have:=HK3.out;omega
          case rel => exact ⟨(wrap64 (x86_3 + 1)),(by first|rfl|(simp;done)|(simp [*];done)),H',⟨by have:=HJ1.out;have:=HK2.out;have:=HK3.out;omega⟩,⟨blk_up BK102.out⟩,⟨hb_⟩⟩
         ·rw [if_neg c38] at H
          have c38b0 : ((rd l0_2 x86_3) == 10) = false:=beq_eq_false_iff_ne.mpr c38
          have c38b1 : ((rd l0_2 x86_3) != 10) = true:=bne_iff_ne.mpr c38
          obtain rfl:=Option.some.inj H
          have p107 : 0 ≤ (x86_3 : Int):=of_decide_eq_true (by first|(with_reducible assumption)|assumption)
          have q107 : x86_3 < (l0_3.length : Int):=of_decide_eq_true (by first|(with_reducible assumption)|assumption)
          obtain ⟨ad107,e107,hx107_0⟩:=Kd.at_int HR0_3.out x86_3 p107 q107
          cases e107
          replace hx107_0:=(HB.out.cell (World.block_lt_of_cell? w _ hx107_0)).trans hx107_0
          replace p107:=eq_true p107
          replace q107:=eq_true q107
          obtain ⟨hcz40_0,hcz40_1,hcz40_2,hcz40_3,hfz40_0,hfz40_1,hfz40_2,hfz40_3⟩:=cells4 BK102.out
          have p108 : 0 ≤ (x86_3 : Int):=of_decide_eq_true (by first|(with_reducible assumption)|assumption)
          have q108 : x86_3 < (l0_2.length : Int):=of_decide_eq_true (by first|(with_reducible assumption)|assumption)
          obtain ⟨ad108,e108,hx108_0⟩:=Kd.at_int HR0_2.out x86_3 p108 q108
          cases e108
          replace hx108_0:=(HB.out.cell (World.block_lt_of_cell? w _ hx108_0)).trans hx108_0
          replace p108:=eq_true p108
          replace q108:=eq_true q108
          have p109 : 0 ≤ (x86_3 : Int):=of_decide_eq_true (by first|(with_reducible assumption)|assumption)
          have q109 : x86_3 < (l0_2.length : Int):=of_decide_eq_true (by first|(with_reducible assumption)|assumption)
          obtain ⟨ad109,e109,hx109_0⟩:=Kd.at_int HR0_2.out x86_3 p109 q109
          obtain rfl : ad108 = ad109:=(by injection e109)
          replace hx109_0:=(HB.out.cell (World.block_lt_of_cell? w _ hx109_0)).trans hx109_0
          replace p109:=eq_true p109
          replace q109:=eq_true q109
          go_wp2
          go_ret
          exact ⟨by first|rfl|(simp [errW_none,errW_some] <;> rfl)|(simp [*,errW_none,errW_some] <;> rfl),hb_⟩
      rw [if_pos c17] at H
      have c17b0 : decide (x49_2 < (l0_2.length : Int)) = true:=decide_eq_true c17
      clear c17
      replace H:=ifp_ H;obtain ⟨c18,H⟩:=H
      have c18b0 : decide (0 ≤ x49_2) = true:=decide_eq_true c18
      clear c18
      replace H:=ifp_ H;obtain ⟨c19,H⟩:=H
      have c19b0 : decide (x49_2 < (l0_2.length : Int)) = true:=decide_eq_true c19
      clear c19
      by_cases c20 : (rd l0_2 x49_2) < 0
      ·rw [if_pos c20] at H
       have c20b0 : decide ((rd l0_2 x49_2) < 0) = true:=decide_eq_true c20
       clear c20
       obtain rfl:=Option.some.inj H
       obtain ⟨hcz21_0,hcz21_1,hcz21_2,hcz21_3,hfz21_0,hfz21_1,hfz21_2,hfz21_3⟩:=cells4 BK102.out
       have p103 : 0 ≤ (x49_2 : Int):=of_decide_eq_true (by first|(with_reducible assumption)|assumption)
       have q103 : x49_2 < (l0_2.length : Int):=of_decide_eq_true (by first|(with_reducible assumption)|assumption)
       obtain ⟨ad103,e103,hx103_0⟩:=Kd.at_int HR0_2.out x49_2 p103 q103
       cases e103
       replace hx103_0:=(HB.out.cell (World.block_lt_of_cell? w _ hx103_0)).trans hx103_0
       replace p103:=eq_true p103
       replace q103:=eq_true q103
       go_wp2
       go_ret
       exact ⟨by first|rfl|(simp [errW_none,errW_some] <;> rfl)|(simp [*,errW_none,errW_some] <;> rfl),hb_⟩
      rw [if_neg c20] at H
      have c20b0 : decide ((rd l0_2 x49_2) < 0) = false:=decide_eq_false c20
      clear c20
      by_cases c22 : (rd l0_2 x49_2) > 15
      ·rw [if_pos c22] at H
       have c22b0 : decide (15 < (rd l0_2 x49_2)) = true:=decide_eq_true c22
       clear c22
       obtain rfl:=Option.some.inj H
       obtain ⟨hcz23_0,hcz23_1,hcz23_2,hcz23_3,hfz23_0,hfz23_1,hfz23_2,hfz23_3⟩:=cells4 BK102.out
       have p103 : 0 ≤ (x49_2 : Int):=of_decide_eq_true (by first|(with_reducible assumption)|assumption)
       have q103 : x49_2 < (l0_2.length : Int):=of_decide_eq_true (by first|(with_reducible assumption)|assumption)
       obtain ⟨ad103,e103,hx103_0⟩:=Kd.at_int HR0_2.out x49_2 p103 q103
       cases e103
       replace hx103_0:=(HB.out.cell (World.block_lt_of_cell? w _ hx103_0)).trans hx103_0
       replace p103:=eq_true p103
       replace q103:=eq_true q103
       have p104 : 0 ≤ (x49_2 : Int):=of_decide_eq_true (by first|(with_reducible assumption)|assumption)
       have q104 : x49_2 < (l0_2.length : Int):=of_decide_eq_true (by first|(with_reducible assumption)|assumption)
       obtain ⟨ad104,e104,hx104_0⟩:=Kd.at_int HR0_2.out x49_2 p104 q104
       obtain rfl : ad103 = ad104:=(by injection e104)
       replace hx104_0:=(HB.out.cell (World.block_lt_of_cell? w _ hx104_0)).trans hx104_0
       replace p104:=eq_true p104
       replace q104:=eq_true q104
       go_wp2
       go_ret
       exact ⟨by first|rfl|(simp [errW_none,errW_some] <;> rfl)|(simp [*,errW_none,errW_some] <;> rfl),hb_⟩
      rw [if_neg c22] at H
      have c22b0 : decide (15 < (rd l0_2 x49_2)) = false:=decide_eq_false c22
      clear c22
      replace H:=ifp_ H;obtain ⟨c24,H⟩:=H
      have c24b0 : decide (x49_2 < (l0_3.length : Int)) = true:=decide_eq_true c24
      clear c24
      by_cases c25 : (rd l0_3 x49_2) < 0
      ·rw [if_pos c25] at H
       have c25b0 : decide ((rd l0_3 x49_2) < 0) = true:=decide_eq_true c25
       clear c25
       obtain rfl:=Option.some.inj H
       obtain ⟨hcz26_0,hcz26_1,hcz26_2,hcz26_3,hfz26_0,hfz26_1,hfz26_2,hfz26_3⟩:=cells4 BK102.out
       have p103 : 0 ≤ (x49_2 : Int):=of_decide_eq_true (by first|(with_reducible assumption)|assumption)
       have q103 : x49_2 < (l0_2.length : Int):=of_decide_eq_true (by first|(with_reducible assumption)|assumption)
       obtain ⟨ad103,e103,hx103_0⟩:=Kd.at_int HR0_2.out x49_2 p103 q103
       cases e103
       replace hx103_0:=(HB.out.cell (World.block_lt_of_cell? w _ hx103_0)).trans hx103_0
       replace p103:=eq_true p103
       replace q103:=eq_true q103
       have p104 : 0 ≤ (x49_2 : Int):=of_decide_eq_true (by first|(with_reducible assumption)|assumption)
       have q104 : x49_2 < (l0_2.length : Int):=of_decide_eq_true (by first|(with_reducible assumption)|assumption)
       obtain ⟨ad104,e104,hx104_0⟩:=Kd.at_int HR0_2.out x49_2 p104 q104
       obtain rfl : ad103 = ad104:=(by injection e104)
       replace hx104_0:=(HB.out.cell (World.block_lt_of_cell? w _ hx104_0)).trans hx104_0
       replace p104:=eq_true p104
       replace q104:=eq_true q104
       have p105 : 0 ≤ (x49_2 : Int):=of_decide_eq_true (by first|(with_reducible assumption)|assumption)
       have q105 : x49_2 < (l0_3.length : Int):=of_decide_eq_true (by first|(with_reducible assumption)|assumption)
       obtain ⟨ad105,e105,hx105_0⟩:=Kd.at_int HR0_3.out x49_2 p105 q105
       cases e105
       replace hx105_0:=(HB.out.cell (World.block_lt_of_cell? w _ hx105_0)).trans hx105_0
       replace p105:=eq_true p105
       replace q105:=eq_true q105
       go_wp2
       go_ret
       exact ⟨by first|rfl|(simp [errW_none,errW_some] <;> rfl)|(simp [*,errW_none,errW_some] <;> rfl),hb_⟩
      rw [if_neg c25] at H
      have c25b0 : decide ((rd l0_3 x49_2) < 0) = false:=decide_eq_false c25
      clear c25
      by_cases c27 : (rd l0_3 x49_2) > 2
      ·rw [if_pos c27] at H
       have c27b0 : decide (2 < (rd l0_3 x49_2)) = true:=decide_eq_true c27
       clear c27
       obtain rfl:=Option.some.inj H
       obtain ⟨hcz28_0,hcz28_1,hcz28_2,hcz28_3,hfz28_0,hfz28_1,hfz28_2,hfz28_3⟩:=cells4 BK102.out
       have p103 : 0 ≤ (x49_2 : Int):=of_decide_eq_true (by first|(with_reducible assumption)|assumption)
       have q103 : x49_2 < (l0_2.length : Int):=of_decide_eq_true (by first|(with_reducible assumption)|assumption)
       obtain ⟨ad103,e103,hx103_0⟩:=Kd.at_int HR0_2.out x49_2 p103 q103
       cases e103
       replace hx103_0:=(HB.out.cell (World.block_lt_of_cell? w _ hx103_0)).trans hx103_0
       replace p103:=eq_true p103
       replace q103:=eq_true q103
       have p104 : 0 ≤ (x49_2 : Int):=of_decide_eq_true (by first|(with_reducible assumption)|assumption)
       have q104 : x49_2 < (l0_2.length : Int):=of_decide_eq_true (by first|(with_reducible assumption)|assumption)
       obtain ⟨ad104,e104,hx104_0⟩:=Kd.at_int HR0_2.out x49_2 p104 q104
       obtain rfl : ad103 = ad104:=(by injection e104)
       replace hx104_0:=(HB.out.cell (World.block_lt_of_cell? w _ hx104_0)).trans hx104_0
       replace p104:=eq_true p104
       replace q104:=eq_true q104
       have p105 : 0 ≤ (x49_2 : Int):=of_decide_eq_true (by first|(with_reducible assumption)|assumption)
       have q105 : x49_2 < (l0_3.length : Int):=of_decide_eq_true (by first|(with_reducible assumption)|assumption)
       obtain ⟨ad105,e105,hx105_0⟩:=Kd.at_int HR0_3.out x49_2 p105 q105
       cases e105
       replace hx105_0:=(HB.out.cell (World.block_lt_of_cell? w _ hx105_0)).trans hx105_0
       replace p105:=eq_true p105
       replace q105:=eq_true q105
       have p106 : 0 ≤ (x49_2 : Int):=of_decide_eq_true (by first|(with_reducible assumption)|assumption)
       have q106 : x49_2 < (l0_3.length : Int):=of_decide_eq_true (by first|(with_reducible assumption)|assumption)
       obtain ⟨ad106,e106,hx106_0⟩:=Kd.at_int HR0_3.out x49_2 p106 q106
       obtain rfl : ad105 = ad106:=(by injection e106)
       replace hx106_0:=(HB.out.cell (World.block_lt_of_cell? w _ hx106_0)).trans hx106_0
       replace p106:=eq_true p106
       replace q106:=eq_true q106
       go_wp2
       go_ret
       exact ⟨by first|rfl|(simp [errW_none,errW_some] <;> rfl)|(simp [*,errW_none,errW_some] <;> rfl),hb_⟩
      rw [if_neg c27] at H
      have c27b0 : decide (2 < (rd l0_3 x49_2)) = false:=decide_eq_false c27
      clear c27
      have H':=Aside0.mk H
      clear H
      obtain ⟨hcz29_0,hcz29_1,hcz29_2,hcz29_3,hfz29_0,hfz29_1,hfz29_2,hfz29_3⟩:=cells4 BK102.out
      have p103 : 0 ≤ (x49_2 : Int):=of_decide_eq_true (by first|(with_reducible assumption)|assumption)
      have q103 : x49_2 < (l0_2.length : Int):=of_decide_eq_true (by first|(with_reducible assumption)|assumption)
      obtain ⟨ad103,e103,hx103_0⟩:=Kd.at_int HR0_2.out x49_2 p103 q103
      cases e103
      replace hx103_0:=(HB.out.cell (World.block_lt_of_cell? w _ hx103_0)).trans hx103_0
      replace p103:=eq_true p103
      replace q103:=eq_true q103
      have p104 : 0 ≤ (x49_2 : Int):=of_decide_eq_true (by first|(with_reducible assumption)|assumption)
      have q104 : x49_2 < (l0_2.length : Int):=of_decide_eq_true (by first|(with_reducible assumption)|assumption)
      obtain ⟨ad104,e104,hx104_0⟩:=Kd.at_int HR0_2.out x49_2 p104 q104
      obtain rfl : ad103 = ad104:=(by injection e104)
      replace hx104_0:=(HB.out.cell (World.block_lt_of_cell? w _ hx104_0)).trans hx104_0
      replace p104:=eq_true p104
      replace q104:=eq_true q104
      have p105 : 0 ≤ (x49_2 : Int):=of_decide_eq_true (by first|(with_reducible assumption)|assumption)
      have q105 : x49_2 < (l0_3.length : Int):=of_decide_eq_true (by first|(with_reducible assumption)|assumption)
      obtain ⟨ad105,e105,hx105_0⟩:=Kd.at_int HR0_3.out x49_2 p105 q105
      cases e105
      replace hx105_0:=(HB.out.cell (World.block_lt_of_cell? w _ hx105_0)).trans hx105_0
      replace p105:=eq_true p105
      replace q105:=eq_true q105
      have p106 : 0 ≤ (x49_2 : Int):=of_decide_eq_true (by first|(with_reducible assumption)|assumption)
      have q106 : x49_2 < (l0_3.length : Int):=of_decide_eq_true (by first|(with_reducible assumption)|assumption)
      obtain ⟨ad106,e106,hx106_0⟩:=Kd.at_int HR0_3.out x49_2 p106 q106
      obtain rfl : ad105 = ad106:=(by injection e106)
      replace hx106_0:=(HB.out.cell (World.block_lt_of_cell? w _ hx106_0)).trans hx106_0
      replace p106:=eq_true p106
      replace q106:=eq_true q106
      go_wp2
      go_roundg k2
      case measure => have:=HJ1.out;have:=HK2.out;omega
      case rel => exact ⟨(wrap64 (x49_2 + 1)),(by first|rfl|(simp;done)|(simp [*];done)),H',⟨by have:=HJ1.out;have:=HK2.out;omega⟩,⟨blk_up BK102.out⟩,⟨hb_⟩⟩

/-! ### road_check: function 40 -/
def road_check.f (k : Nat) (a0_0 : Int) (a0_1 : Int) (l0_2 : List Int) (l0_3 : List Int) (a1 : Int) : Option (Int) := (road_Validate.f k a0_0 a0_1 l0_2 l0_3).bind fun t111 => (if t111 = 0 then (if a1 < 0 then (some 2) else (if a1 ≥ (wrap64 (a0_0 * a0_1)) then (some 2) else (some 0))) else (some t111))
theorem road_check.mono : ∀ a0 a1 a2 a3 a4 k, LeO (road_check.f k a0 a1 a2 a3 a4) (road_check.f (k + 1) a0 a1 a2 a3 a4) := by
 intro a0 a1 a2 a3 a4 k
 unfold road_check.f
 repeat' first
   | (with_reducible exact road_Validate.mono _ _ _ _ _)
   | (with_reducible exact LeO.refl _)
   | (with_reducible exact LeO.none _)
   | (with_reducible refine LeO.ite ?_ ?_)
   | (with_reducible refine LeO.bind ?_ (fun _ => ?_))
   | exact road_Validate.mono _ _ _ _ _
   | exact LeO.none _
   | refine LeO.ite ?_ ?_
   | refine LeO.bind ?_ (fun _ => ?_)
set_option maxHeartbeats 8000000 in
set_option maxRecDepth 100000 in
theorem road_check.calls (k : Nat) (a0_0 : Int) (a0_1 : Int) (A0_2 : Option Addr) (c0_2 : Nat) (l0_2 : List Int) (A0_3 : Option Addr) (c0_3 : Nat) (l0_3 : List Int) (a1 : Int) (r : Int) (w : World) (hr0_2 : Kd.C (Kd.int .i64) w A0_2 l0_2.length l0_2) (hc0_2 : l0_2.length ≤ c0_2) (hr0_3 : Kd.C (Kd.int .i64) w A0_3 l0_3.length l0_3) (hc0_3 : l0_3.length ≤ c0_3) (h : road_check.f k a0_0 a0_1 l0_2 l0_3 a1 = some r) :
  Calls Try.prog 40 #[.agg #[.int .i64 a0_0,.int .i64 a0_1,.slice A0_2 l0_2.length c0_2,.slice A0_3 l0_3.length c0_3],.int .i64 a1] w fun e w' => e = .returned (.int .i64 r) ∧ Below w.heap.size w w':=by
 have hu24:=Try.underlying24
 have HR0_2:=Aside0.mk hr0_2
 have HC0_2:=Aside0.mk hc0_2
 clear hr0_2 hc0_2
 have HR0_3:=Aside0.mk hr0_3
 have HC0_3:=Aside0.mk hc0_3
 clear hr0_3 hc0_3
 have HB:=Aside0.mk (Below.refl w.heap.size w)
 have H : ((road_Validate.f k a0_0 a0_1 l0_2 l0_3).bind fun t111 => (if t111 = 0 then (if a1 < 0 then (some 2) else (if a1 ≥ (wrap64 (a0_0 * a0_1)) then (some 2) else (some 0))) else (some t111))) = some r:=h
 clear h
 replace H:=Option.bind_eq_some_iff.mp H
 obtain ⟨t111,A30,H⟩:=H
 replace H : (if t111 = 0 then (if a1 < 0 then (some 2) else (if a1 ≥ (wrap64 (a0_0 * a0_1)) then (some 2) else (some 0))) else (some t111)) = some r:=H
 have A3:=Aside0.mk A30
 clear A30
 by_cases c4 : t111 = 0
 rotate_left
 ·rw [if_neg c4] at H
  have c4b0 : (t111 == 0) = false:=beq_eq_false_iff_ne.mpr c4
  have c4b1 : (t111 != 0) = true:=bne_iff_ne.mpr c4
  obtain rfl:=Option.some.inj H
  go_enter Try.func40,Try.ntmps40
  go_wp2_with (first|((with_reducible refine gate_dst (N:=2) rfl ?_);refine box_ev (N:=2) (cs:=#[.int .i64 a0_0,.int .i64 a0_1,.slice A0_2 l0_2.length c0_2,.slice A0_3 l0_3.length c0_3]) (t:=24) ?_;intro gb110 hg w18 hbox hb;have BK110:=Aside0.mk (hbox);have GW110 : Aside0 (w.heap.size ≤ gb110):=gsz hg;have GE110:=GW110;replace HB:=Aside0.mk (below_step (hb_) hb);clear hb hbox hg;obtain ⟨hcz19_0,hcz19_1,hcz19_2,hcz19_3,hfz19_0,hfz19_1,hfz19_2,hfz19_3⟩:=cells4 BK110.out)|((with_reducible refine gate_callee (f:=17) rfl ?_);refine goesL_ (some 7) rfl rfl Try.func17 (by kernel_rfl) rfl #[.agg #[.int .i64 a0_0,.int .i64 a0_1,.slice A0_2 l0_2.length c0_2,.slice A0_3 l0_3.length c0_3]] rfl (by (try simp only [List.map_toArray,List.map_cons,List.map_nil]);first|done|rfl|(simp only [List.length_drop,List.length_take];rfl)) ?_;(with_reducible refine (road_Validate.calls k a0_0 a0_1 _ _ l0_2 _ _ l0_3 t111 _ ?side1 ?side2 ?side3 ?side4 A3.out).mono ?_);(case side1 => exact Kd.C_up (Kd.C_below HR0_2.out HB.out));(case side2 => exact HC0_2.out);(case side3 => exact Kd.C_up (Kd.C_below HR0_3.out HB.out));(case side4 => exact HC0_3.out);rintro e w20 ⟨rfl,hb⟩;refine ⟨_,rfl,?_⟩;replace BK110:=bkb BK110 hb;replace HB:=Aside0.mk (below_step (hb_) hb)))
  go_ret
  exact ⟨by first|rfl|(simp [errW_none,errW_some] <;> rfl)|(simp [*,errW_none,errW_some] <;> rfl),hb_⟩
 rw [if_pos c4] at H
 have c4b0 : (t111 == 0) = true:=beq_iff_eq.mpr c4
 have c4b1 : (t111 != 0) = false:=bne_eq_false_iff_eq.mpr c4
 clear c4
 by_cases c5 : a1 < 0
 ·rw [if_pos c5] at H
  have c5b0 : decide (a1 < 0) = true:=decide_eq_true c5
  clear c5
  obtain rfl:=Option.some.inj H
  go_enter Try.func40,Try.ntmps40
  go_wp2_with (first|((with_reducible refine gate_dst (N:=2) rfl ?_);refine box_ev (N:=2) (cs:=#[.int .i64 a0_0,.int .i64 a0_1,.slice A0_2 l0_2.length c0_2,.slice A0_3 l0_3.length c0_3]) (t:=24) ?_;intro gb110 hg w6 hbox hb;have BK110:=Aside0.mk (hbox);have GW110 : Aside0 (w.heap.size ≤ gb110):=gsz hg;have GE110:=GW110;replace HB:=Aside0.mk (below_step (hb_) hb);clear hb hbox hg;obtain ⟨hcz7_0,hcz7_1,hcz7_2,hcz7_3,hfz7_0,hfz7_1,hfz7_2,hfz7_3⟩:=cells4 BK110.out)|((with_reducible refine gate_callee (f:=17) rfl ?_);refine goesL_ (some 7) rfl rfl Try.func17 (by kernel_rfl) rfl #[.agg #[.int .i64 a0_0,.int .i64 a0_1,.slice A0_2 l0_2.length c0_2,.slice A0_3 l0_3.length c0_3]] rfl (by (try simp only [List.map_toArray,List.map_cons,List.map_nil]);first|done|rfl|(simp only [List.length_drop,List.length_take];rfl)) ?_;(with_reducible refine (road_Validate.calls k a0_0 a0_1 _ _ l0_2 _ _ l0_3 t111 _ ?side1 ?side2 ?side3 ?side4 A3.out).mono ?_);(case side1 => exact Kd.C_up (Kd.C_below HR0_2.out HB.out));(case side2 => exact HC0_2.out);(case side3 => exact Kd.C_up (Kd.C_below HR0_3.out HB.out));(case side4 => exact HC0_3.out);rintro e w8 ⟨rfl,hb⟩;refine ⟨_,rfl,?_⟩;replace BK110:=bkb BK110 hb;replace HB:=Aside0.mk (below_step (hb_) hb)))
  go_ret
  exact ⟨by first|rfl|(simp [errW_none,errW_some] <;> rfl)|(simp [*,errW_none,errW_some] <;> rfl),hb_⟩
 ·rw [if_neg c5] at H
  have c5b0 : decide (a1 < 0) = false:=decide_eq_false c5
  clear c5
  by_cases c9 : a1 ≥ (wrap64 (a0_0 * a0_1))
  ·rw [if_pos c9] at H
   have c9b0 : decide ((wrap64 (a0_0 * a0_1)) ≤ a1) = true:=decide_eq_true c9
   clear c9
   obtain rfl:=Option.some.inj H
   go_enter Try.func40,Try.ntmps40
   go_wp2_with (first|((with_reducible refine gate_dst (N:=2) rfl ?_);refine box_ev (N:=2) (cs:=#[.int .i64 a0_0,.int .i64 a0_1,.slice A0_2 l0_2.length c0_2,.slice A0_3 l0_3.length c0_3]) (t:=24) ?_;intro gb110 hg w10 hbox hb;have BK110:=Aside0.mk (hbox);have GW110 : Aside0 (w.heap.size ≤ gb110):=gsz hg;have GE110:=GW110;replace HB:=Aside0.mk (below_step (hb_) hb);clear hb hbox hg;obtain ⟨hcz11_0,hcz11_1,hcz11_2,hcz11_3,hfz11_0,hfz11_1,hfz11_2,hfz11_3⟩:=cells4 BK110.out)|((with_reducible refine gate_callee (f:=17) rfl ?_);refine goesL_ (some 7) rfl rfl Try.func17 (by kernel_rfl) rfl #[.agg #[.int .i64 a0_0,.int .i64 a0_1,.slice A0_2 l0_2.length c0_2,.slice A0_3 l0_3.length c0_3]] rfl (by (try simp only [List.map_toArray,List.map_cons,List.map_nil]);first|done|rfl|(simp only [List.length_drop,List.length_take];rfl)) ?_;(with_reducible refine (road_Validate.calls k a0_0 a0_1 _ _ l0_2 _ _ l0_3 t111 _ ?side1 ?side2 ?side3 ?side4 A3.out).mono ?_);(case side1 => exact Kd.C_up (Kd.C_below HR0_2.out HB.out));(case side2 => exact HC0_2.out);(case side3 => exact Kd.C_up (Kd.C_below HR0_3.out HB.out));(case side4 => exact HC0_3.out);rintro e w12 ⟨rfl,hb⟩;refine ⟨_,rfl,?_⟩;replace BK110:=bkb BK110 hb;replace HB:=Aside0.mk (below_step (hb_) hb);obtain ⟨hcz13_0,hcz13_1,hcz13_2,hcz13_3,hfz13_0,hfz13_1,hfz13_2,hfz13_3⟩:=cells4 BK110.out))
   go_ret
   exact ⟨by first|rfl|(simp [errW_none,errW_some] <;> rfl)|(simp [*,errW_none,errW_some] <;> rfl),hb_⟩
  ·rw [if_neg c9] at H
   have c9b0 : decide ((wrap64 (a0_0 * a0_1)) ≤ a1) = false:=decide_eq_false c9
   clear c9
   obtain rfl:=Option.some.inj H
   go_enter Try.func40,Try.ntmps40
   go_wp2_with (first|((with_reducible refine gate_dst (N:=2) rfl ?_);refine box_ev (N:=2) (cs:=#[.int .i64 a0_0,.int .i64 a0_1,.slice A0_2 l0_2.length c0_2,.slice A0_3 l0_3.length c0_3]) (t:=24) ?_;intro gb110 hg w14 hbox hb;have BK110:=Aside0.mk (hbox);have GW110 : Aside0 (w.heap.size ≤ gb110):=gsz hg;have GE110:=GW110;replace HB:=Aside0.mk (below_step (hb_) hb);clear hb hbox hg;obtain ⟨hcz15_0,hcz15_1,hcz15_2,hcz15_3,hfz15_0,hfz15_1,hfz15_2,hfz15_3⟩:=cells4 BK110.out)|((with_reducible refine gate_callee (f:=17) rfl ?_);refine goesL_ (some 7) rfl rfl Try.func17 (by kernel_rfl) rfl #[.agg #[.int .i64 a0_0,.int .i64 a0_1,.slice A0_2 l0_2.length c0_2,.slice A0_3 l0_3.length c0_3]] rfl (by (try simp only [List.map_toArray,List.map_cons,List.map_nil]);first|done|rfl|(simp only [List.length_drop,List.length_take];rfl)) ?_;(with_reducible refine (road_Validate.calls k a0_0 a0_1 _ _ l0_2 _ _ l0_3 t111 _ ?side1 ?side2 ?side3 ?side4 A3.out).mono ?_);(case side1 => exact Kd.C_up (Kd.C_below HR0_2.out HB.out));(case side2 => exact HC0_2.out);(case side3 => exact Kd.C_up (Kd.C_below HR0_3.out HB.out));(case side4 => exact HC0_3.out);rintro e w16 ⟨rfl,hb⟩;refine ⟨_,rfl,?_⟩;replace BK110:=bkb BK110 hb;replace HB:=Aside0.mk (below_step (hb_) hb);obtain ⟨hcz17_0,hcz17_1,hcz17_2,hcz17_3,hfz17_0,hfz17_1,hfz17_2,hfz17_3⟩:=cells4 BK110.out))
   go_ret
   exact ⟨by first|rfl|(simp [errW_none,errW_some] <;> rfl)|(simp [*,errW_none,errW_some] <;> rfl),hb_⟩

end Go.Proofs.Ytbdekjjdojbokaa.P

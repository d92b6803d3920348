/- Functions of this seat as plain Lean functions, with proofs that the Go code comes to just their answers, or what stands between them and a law's statement; no conditions. (Laid by a program of this session, out of the kit's print.) -/
import Derived.Test.YtiencnnkphipoaaPx0
import Derived.Test.YtiencnnkphipoaaPx8
namespace Go.Proofs.Ytiencnnkphipoaa.P
open Go.RowKit Go.Proofs.YtiencnnkphipoaaW.PrintWords Go.Proofs.YtiencnnkphipoaaW.PrintLast Go.Proofs.YtiencnnkphipoaaW.PrintMore
attribute [local go_sem] max2_int min2_int max_two min_two max_three min_three max_four min_four   -- for this text's walks alone
set_option linter.unusedVariables false
set_option linter.unusedSimpArgs false

/-! ### hinterlandref06_Validate: function 23 -/
mutual
def hinterlandref06_Validate.l0 : Nat → List Int → Int → Int → Int → Int → List Int → List Int → List Int → Option (Int)
 | 0,_,_,_,_,_,_,_,_ => none
 | k + 1,x30,x31,x32,x397000,x397001,x397002,x398000,x398001 => if x32 < x31 then (if 0 ≤ x32 then (if x32 < (x30.length : Int) then (if (rd x30 x32) < 0 then (some 1) else (if (rd x30 x32) > 3 then (some 1) else (hinterlandref06_Validate.l0 k x30 x31 (wrap64 (x32 + 1)) x397000 x397001 x397002 x398000 x398001))) else (none)) else (none)) else (hinterlandref06_Validate.l1 k 1 x397000 x397001 x397002 x398000 x398001)
def hinterlandref06_Validate.l1 : Nat → Int → Int → Int → List Int → List Int → List Int → Option (Int)
 | 0,_,_,_,_,_,_ => none
 | k + 1,x8,x397000,x397001,x397002,x398000,x398001 => if x8 < (x398001.length : Int) then (if 0 ≤ (wrap64 (x8 - 1)) then (if (wrap64 (x8 - 1)) < (x398001.length : Int) then (if 0 ≤ x8 then (if (rd x398001 (wrap64 (x8 - 1))) ≥ (rd x398001 x8) then (some 1) else (hinterlandref06_Validate.l1 k (wrap64 (x8 + 1)) x397000 x397001 x397002 x398000 x398001)) else (none)) else (none)) else (none)) else (hinterlandref06_Validate.l2 k x398001 (x398001.length : Int) 0 x397000 x397001 x397002 x398000 x398001)
def hinterlandref06_Validate.l2 : Nat → List Int → Int → Int → Int → Int → List Int → List Int → List Int → Option (Int)
 | 0,_,_,_,_,_,_,_,_ => none
 | k + 1,x63,x64,x65,x397000,x397001,x397002,x398000,x398001 => if x65 < x64 then (if 0 ≤ x65 then (if x65 < (x63.length : Int) then ((hinterlandref02_Is.f x397000 x397001 x397002 (rd x63 x65)).bind fun t403 => (if t403 = true then (hinterlandref06_Validate.l2 k x63 x64 (wrap64 (x65 + 1)) x397000 x397001 x397002 x398000 x398001) else (some 2))) else (none)) else (none)) else (hinterlandref06_Validate.l3 k x398000 (x398000.length : Int) 0 x397000 x397001 x397002 x398000 x398001)
def hinterlandref06_Validate.l3 : Nat → List Int → Int → Int → Int → Int → List Int → List Int → List Int → Option (Int)
 | 0,_,_,_,_,_,_,_,_ => none
 | k + 1,x75,x76,x77,x397000,x397001,x397002,x398000,x398001 => if x77 < x76 then (if 0 ≤ x77 then (if x77 < (x75.length : Int) then ((hinterlandref06_lies.f k x397000 x397001 x397002 x77 (rd x75 x77)).bind fun t405 => (if t405 = 0 then (hinterlandref06_Validate.l3 k x75 x76 (wrap64 (x77 + 1)) x397000 x397001 x397002 x398000 x398001) else (some 9))) else (none)) else (none)) else (hinterlandref06_Validate.l4 k x398001 (x398001.length : Int) 0 x397000 x397001 x397002 x398000 x398001)
def hinterlandref06_Validate.l4 : Nat → List Int → Int → Int → Int → Int → List Int → List Int → List Int → Option (Int)
 | 0,_,_,_,_,_,_,_,_ => none
 | k + 1,x89,x90,x91,x397000,x397001,x397002,x398000,x398001 => if x91 < x90 then (if 0 ≤ x91 then (if x91 < (x89.length : Int) then ((hinterlandref06_Wet.f k x397000 x397001 x397002 x398000 (rd x89 x91)).bind fun t407 => (if t407 = true then (hinterlandref06_Validate.l4 k x89 x90 (wrap64 (x91 + 1)) x397000 x397001 x397002 x398000 x398001) else (some 9))) else (none)) else (none)) else (some 0)
end
def hinterlandref06_Validate.f (k : Nat) (a0_0 : Int) (a0_1 : Int) (l0_2 : List Int) (l1_0 : List Int) (l1_1 : List Int) : Option (Int) := (hinterlandref02_Validate.f k a0_0 a0_1 l0_2).bind fun t398 => (if t398 = 0 then (if (l1_0.length : Int) = (wrap64 (a0_0 * a0_1)) then (hinterlandref06_Validate.l0 k l1_0 (l1_0.length : Int) 0 a0_0 a0_1 l0_2 l1_0 l1_1) else (some 1)) else (some t398))
theorem hinterlandref06_Validate.mono_l : ∀ k, (∀ y0 y1 y2 y3 y4 y5 y6 y7, LeO (hinterlandref06_Validate.l0 k y0 y1 y2 y3 y4 y5 y6 y7) (hinterlandref06_Validate.l0 (k + 1) y0 y1 y2 y3 y4 y5 y6 y7)) ∧ (∀ y0 y1 y2 y3 y4 y5, LeO (hinterlandref06_Validate.l1 k y0 y1 y2 y3 y4 y5) (hinterlandref06_Validate.l1 (k + 1) y0 y1 y2 y3 y4 y5)) ∧ (∀ y0 y1 y2 y3 y4 y5 y6 y7, LeO (hinterlandref06_Validate.l2 k y0 y1 y2 y3 y4 y5 y6 y7) (hinterlandref06_Validate.l2 (k + 1) y0 y1 y2 y3 y4 y5 y6 y7)) ∧ (∀ y0 y1 y2 y3 y4 y5 y6 y7, LeO (hinterlandref06_Validate.l3 k y0 y1 y2 y3 y4 y5 y6 y7) (hinterlandref06_Validate.l3 (k + 1) y0 y1 y2 y3 y4 y5 y6 y7)) ∧ (∀ y0 y1 y2 y3 y4 y5 y6 y7, LeO (hinterlandref06_Validate.l4 k y0 y1 y2 y3 y4 y5 y6 y7) (hinterlandref06_Validate.l4 (k + 1) y0 y1 y2 y3 y4 y5 y6 y7))
 | 0 => ⟨fun _ _ _ _ _ _ _ _ r h => by simp [hinterlandref06_Validate.l0] at h,fun _ _ _ _ _ _ r h => by simp [hinterlandref06_Validate.l1] at h,fun _ _ _ _ _ _ _ _ r h => by simp [hinterlandref06_Validate.l2] at h,fun _ _ _ _ _ _ _ _ r h => by simp [hinterlandref06_Validate.l3] at h,fun _ _ _ _ _ _ _ _ r h => by simp [hinterlandref06_Validate.l4] at h⟩
 | k + 1 => by
  obtain ⟨ih0,ih1,ih2,ih3,ih4⟩:=hinterlandref06_Validate.mono_l k
  refine ⟨?_,?_,?_,?_,?_⟩
  ·intro y0 y1 y2 y3 y4 y5 y6 y7
   unfold hinterlandref06_Validate.l0
   repeat' first
   | (with_reducible exact ih0 _ _ _ _ _ _ _ _)
   | (with_reducible exact ih1 _ _ _ _ _ _)
   | (with_reducible exact ih2 _ _ _ _ _ _ _ _)
   | (with_reducible exact ih3 _ _ _ _ _ _ _ _)
   | (with_reducible exact ih4 _ _ _ _ _ _ _ _)
   | (with_reducible exact hinterlandref02_Validate.mono _ _ _ _)
   | (with_reducible exact hinterlandref06_Wet.mono _ _ _ _ _ _)
   | (with_reducible exact hinterlandref06_lies.mono _ _ _ _ _ _)
   | (with_reducible exact LeO.refl _)
   | (with_reducible exact LeO.none _)
   | (with_reducible refine LeO.ite ?_ ?_)
   | (with_reducible refine LeO.bind ?_ (fun _ => ?_))
   | exact ih0 _ _ _ _ _ _ _ _
   | exact ih1 _ _ _ _ _ _
   | exact ih2 _ _ _ _ _ _ _ _
   | exact ih3 _ _ _ _ _ _ _ _
   | exact ih4 _ _ _ _ _ _ _ _
   | exact hinterlandref02_Validate.mono _ _ _ _
   | exact hinterlandref06_Wet.mono _ _ _ _ _ _
   | exact hinterlandref06_lies.mono _ _ _ _ _ _
   | exact LeO.none _
   | refine LeO.ite ?_ ?_
   | refine LeO.bind ?_ (fun _ => ?_)
  ·intro y0 y1 y2 y3 y4 y5
   unfold hinterlandref06_Validate.l1
   repeat' first
   | (with_reducible exact ih0 _ _ _ _ _ _ _ _)
   | (with_reducible exact ih1 _ _ _ _ _ _)
   | (with_reducible exact ih2 _ _ _ _ _ _ _ _)
   | (with_reducible exact ih3 _ _ _ _ _ _ _ _)
   | (with_reducible exact ih4 _ _ _ _ _ _ _ _)
   | (with_reducible exact hinterlandref02_Validate.mono _ _ _ _)
   | (with_reducible exact hinterlandref06_Wet.mono _ _ _ _ _ _)
   | (with_reducible exact hinterlandref06_lies.mono _ _ _ _ _ _)
   | (with_reducible exact LeO.refl _)
   | (with_reducible exact LeO.none _)
   | (with_reducible refine LeO.ite ?_ ?_)
   | (with_reducible refine LeO.bind ?_ (fun _ => ?_))
   | exact ih0 _ _ _ _ _ _ _ _
   | exact ih1 _ _ _ _ _ _
   | exact ih2 _ _ _ _ _ _ _ _
   | exact ih3 _ _ _ _ _ _ _ _
   | exact ih4 _ _ _ _ _ _ _ _
   | exact hinterlandref02_Validate.mono _ _ _ _
   | exact hinterlandref06_Wet.mono _ _ _ _ _ _
   | exact hinterlandref06_lies.mono _ _ _ _ _ _
   | exact LeO.none _
   | refine LeO.ite ?_ ?_
   | refine LeO.bind ?_ (fun _ => ?_)
  ·intro y0 y1 y2 y3 y4 y5 y6 y7
   unfold hinterlandref06_Validate.l2
   repeat' first
   | (with_reducible exact ih0 _ _ _ _ _ _ _ _)
   | (with_reducible exact ih1 _ _ _ _ _ _)
   | (with_reducible exact ih2 _ _ _ _ _ _ _ _)
   | (with_reducible exact ih3 _ _ _ _ _ _ _ _)
   | (with_reducible exact ih4 _ _ _ _ _ _ _ _)
   | (with_reducible exact hinterlandref02_Validate.mono _ _ _ _)
   | (with_reducible exact hinterlandref06_Wet.mono _ _ _ _ _ _)
   | (with_reducible exact hinterlandref06_lies.mono _ _ _ _ _ _)
   | (with_reducible exact LeO.refl _)
   | (with_reducible exact LeO.none _)
   | (with_reducible refine LeO.ite ?_ ?_)
   | (with_reducible refine LeO.bind ?_ (fun _ => ?_))
   | exact ih0 _ _ _ _ _ _ _ _
   | exact ih1 _ _ _ _ _ _
   | exact ih2 _ _ _ _ _ _ _ _
   | exact ih3 _ _ _ _ _ _ _ _
   | exact ih4 _ _ _ _ _ _ _ _
   | exact hinterlandref02_Validate.mono _ _ _ _
   | exact hinterlandref06_Wet.mono _ _ _ _ _ _
   | exact hinterlandref06_lies.mono _ _ _ _ _ _
   | exact LeO.none _
   | refine LeO.ite ?_ ?_
   | refine LeO.bind ?_ (fun _ => ?_)
  ·intro y0 y1 y2 y3 y4 y5 y6 y7
   unfold hinterlandref06_Validate.l3
   repeat' first
   | (with_reducible exact ih0 _ _ _ _ _ _ _ _)
   | (with_reducible exact ih1 _ _ _ _ _ _)
   | (with_reducible exact ih2 _ _ _ _ _ _ _ _)
   | (with_reducible exact ih3 _ _ _ _ _ _ _ _)
   | (with_reducible exact ih4 _ _ _ _ _ _ _ _)
   | (with_reducible exact hinterlandref02_Validate.mono _ _ _ _)
   | (with_reducible exact hinterlandref06_Wet.mono _ _ _ _ _ _)
   | (with_reducible exact hinterlandref06_lies.mono _ _ _ _ _ _)
   | (with_reducible exact LeO.refl _)
   | (with_reducible exact LeO.none _)
   | (with_reducible refine LeO.ite ?_ ?_)
   | (with_reducible refine LeO.bind ?_ (fun _ => ?_))
   | exact ih0 _ _ _ _ _ _ _ _
   | exact ih1 _ _ _ _ _ _
   | exact ih2 _ _ _ _ _ _ _ _
   | exact ih3 _ _ _ _ _ _ _ _
   | exact ih4 _ _ _ _ _ _ _ _
   | exact hinterlandref02_Validate.mono _ _ _ _
   | exact hinterlandref06_Wet.mono _ _ _ _ _ _
   | exact hinterlandref06_lies.mono _ _ _ _ _ _
   | exact LeO.none _
   | refine LeO.ite ?_ ?_
   | refine LeO.bind ?_ (fun _ => ?_)
  ·intro y0 y1 y2 y3 y4 y5 y6 y7
   unfold hinterlandref06_Validate.l4
   repeat' first
   | (with_reducible exact ih0 _ _ _ _ _ _ _ _)
   | (with_reducible exact ih1 _ _ _ _ _ _)
   | (with_reducible exact ih2 _ _ _ _ _ _ _ _)
   | (with_reducible exact ih3 _ _ _ _ _ _ _ _)
   | (with_reducible exact ih4 _ _ _ _ _ _ _ _)
   | (with_reducible exact hinterlandref02_Validate.mono _ _ _ _)
   | (with_reducible exact hinterlandref06_Wet.mono _ _ _ _ _ _)
   | (with_reducible exact hinterlandref06_lies.mono _ _ _ _ _ _)
   | (with_reducible exact LeO.refl _)
   | (with_reducible exact LeO.none _)
   | (with_reducible refine LeO.ite ?_ ?_)
   | (with_reducible refine LeO.bind ?_ (fun _ => ?_))
   | exact ih0 _ _ _ _ _ _ _ _
   | exact ih1 _ _ _ _ _ _
   | exact ih2 _ _ _ _ _ _ _ _
   | exact ih3 _ _ _ _ _ _ _ _
   | exact ih4 _ _ _ _ _ _ _ _
   | exact hinterlandref02_Validate.mono _ _ _ _
   | exact hinterlandref06_Wet.mono _ _ _ _ _ _
   | exact hinterlandref06_lies.mono _ _ _ _ _ _
   | exact LeO.none _
   | refine LeO.ite ?_ ?_
   | refine LeO.bind ?_ (fun _ => ?_)
theorem hinterlandref06_Validate.mono : ∀ a0 a1 a2 a3 a4 k, LeO (hinterlandref06_Validate.f k a0 a1 a2 a3 a4) (hinterlandref06_Validate.f (k + 1) a0 a1 a2 a3 a4) := by
 intro a0 a1 a2 a3 a4 k
 obtain ⟨ih0,ih1,ih2,ih3,ih4⟩:=hinterlandref06_Validate.mono_l k
 unfold hinterlandref06_Validate.f
 repeat' first
   | (with_reducible exact ih0 _ _ _ _ _ _ _ _)
   | (with_reducible exact ih1 _ _ _ _ _ _)
   | (with_reducible exact ih2 _ _ _ _ _ _ _ _)
   | (with_reducible exact ih3 _ _ _ _ _ _ _ _)
   | (with_reducible exact ih4 _ _ _ _ _ _ _ _)
   | (with_reducible exact hinterlandref02_Validate.mono _ _ _ _)
   | (with_reducible exact hinterlandref06_Wet.mono _ _ _ _ _ _)
   | (with_reducible exact hinterlandref06_lies.mono _ _ _ _ _ _)
   | (with_reducible exact LeO.refl _)
   | (with_reducible exact LeO.none _)
   | (with_reducible refine LeO.ite ?_ ?_)
   | (with_reducible refine LeO.bind ?_ (fun _ => ?_))
   | exact ih0 _ _ _ _ _ _ _ _
   | exact ih1 _ _ _ _ _ _
   | exact ih2 _ _ _ _ _ _ _ _
   | exact ih3 _ _ _ _ _ _ _ _
   | exact ih4 _ _ _ _ _ _ _ _
   | exact hinterlandref02_Validate.mono _ _ _ _
   | exact hinterlandref06_Wet.mono _ _ _ _ _ _
   | exact hinterlandref06_lies.mono _ _ _ _ _ _
   | exact LeO.none _
   | refine LeO.ite ?_ ?_
   | refine LeO.bind ?_ (fun _ => ?_)
set_option maxHeartbeats 8000000 in
set_option maxRecDepth 100000 in
theorem hinterlandref06_Validate.calls (k : Nat) (a0_0 : Int) (a0_1 : Int) (A0_2 : Option Addr) (c0_2 : Nat) (l0_2 : List Int) (A1_0 : Option Addr) (c1_0 : Nat) (l1_0 : List Int) (A1_1 : Option Addr) (c1_1 : Nat) (l1_1 : List Int) (r : Int) (w : World) (hr0_2 : Kd.C (Kd.int .i64) w A0_2 l0_2.length l0_2) (hc0_2 : l0_2.length ≤ c0_2) (hr1_0 : Kd.C (Kd.int .i64) w A1_0 l1_0.length l1_0) (hc1_0 : l1_0.length ≤ c1_0) (hr1_1 : Kd.C (Kd.int .i64) w A1_1 l1_1.length l1_1) (hc1_1 : l1_1.length ≤ c1_1) (h : hinterlandref06_Validate.f k a0_0 a0_1 l0_2 l1_0 l1_1 = some r) :
  Calls Try.prog 23 #[.agg #[.int .i64 a0_0,.int .i64 a0_1,.slice A0_2 l0_2.length c0_2],.agg #[.slice A1_0 l1_0.length c1_0,.slice A1_1 l1_1.length c1_1]] w fun e w' => e = .returned (.int .i64 r) ∧ Below w.heap.size w w':=by
 have hu24:=Try.underlying24
 have hu26:=Try.underlying26
 have HR0_2:=Aside0.mk hr0_2
 have HC0_2:=Aside0.mk hc0_2
 clear hr0_2 hc0_2
 have HR1_0:=Aside0.mk hr1_0
 have HC1_0:=Aside0.mk hc1_0
 clear hr1_0 hc1_0
 have HR1_1:=Aside0.mk hr1_1
 have HC1_1:=Aside0.mk hc1_1
 clear hr1_1 hc1_1
 have HB:=Aside0.mk (Below.refl w.heap.size w)
 have H : ((hinterlandref02_Validate.f k a0_0 a0_1 l0_2).bind fun t398 => (if t398 = 0 then (if (l1_0.length : Int) = (wrap64 (a0_0 * a0_1)) then (hinterlandref06_Validate.l0 k l1_0 (l1_0.length : Int) 0 a0_0 a0_1 l0_2 l1_0 l1_1) else (some 1)) else (some t398))) = some r:=h
 clear h
 replace H:=Option.bind_eq_some_iff.mp H
 obtain ⟨t398,A30,H⟩:=H
 replace H : (if t398 = 0 then (if (l1_0.length : Int) = (wrap64 (a0_0 * a0_1)) then (hinterlandref06_Validate.l0 k l1_0 (l1_0.length : Int) 0 a0_0 a0_1 l0_2 l1_0 l1_1) else (some 1)) else (some t398)) = some r:=H
 have A3:=Aside0.mk A30
 clear A30
 by_cases c4 : t398 = 0
 rotate_left
 ·rw [if_neg c4] at H
  have c4b0:=bqf c4
  have c4b1:=bnt c4
  obtain rfl:=Option.some.inj H
  go_enter Try.func23,Try.ntmps23
  go_wp2_with (first|((with_reducible refine gate_dst (N:=2) rfl ?_);refine box_ev (N:=2) (cs:=#[.int .i64 a0_0,.int .i64 a0_1,.slice A0_2 l0_2.length c0_2]) (t:=24) ?_;intro gb396 hg w76 hbox hb;have BK396:=Aside0.mk (hbox);have GW396 : Aside0 (w.heap.size ≤ gb396):=gsz hg;have GE396:=GW396;replace HB:=hbs hb;clear hb hbox hg)|((with_reducible refine gate_dst (N:=3) rfl ?_);refine box_ev (N:=3) (cs:=#[.slice A1_0 l1_0.length c1_0,.slice A1_1 l1_1.length c1_1]) (t:=26) ?_;intro gb397 hg w77 hbox hb;have BK397:=Aside0.mk (hbox);have GW397 : Aside0 (w.heap.size ≤ gb397):=gsz hg;have GE397:=GW397;have NB396_397:=nbl BK396 hg;have NB397_396:=nbr BK396 hg;replace BK396:=bkb BK396 hb;replace HB:=hbs hb;clear hb hbox hg;have hnb78:=NB396_397.out;have hnc78:=NB397_396.out;obtain ⟨_,_,_,_,_,_⟩:=cells3 BK396.out)|(go_at_call 48;(with_reducible refine (hinterlandref02_Validate.calls k a0_0 a0_1 _ _ l0_2 t398 _ ?_ ?_ A3.out).mono ?_);exact cq HR0_2;exact HC0_2.out;rintro e w80 ⟨rfl,hb⟩;replace BK396:=bkb BK396 hb;replace BK397:=bkb BK397 hb;replace HB:=hbs hb))
  go_ret
  exact ⟨er_,hb_⟩
 rw [if_pos c4] at H
 have c4b0:=bqt c4
 have c4b1:=bnf c4
 clear c4
 by_cases c5 : (l1_0.length : Int) = (wrap64 (a0_0 * a0_1))
 rotate_left
 ·rw [if_neg c5] at H
  have c5b0:=bqf c5
  have c5b1:=bnt c5
  obtain rfl:=Option.some.inj H
  go_enter Try.func23,Try.ntmps23
  go_wp2_with (first|((with_reducible refine gate_dst (N:=2) rfl ?_);refine box_ev (N:=2) (cs:=#[.int .i64 a0_0,.int .i64 a0_1,.slice A0_2 l0_2.length c0_2]) (t:=24) ?_;intro gb396 hg w69 hbox hb;have BK396:=Aside0.mk (hbox);have GW396 : Aside0 (w.heap.size ≤ gb396):=gsz hg;have GE396:=GW396;replace HB:=hbs hb;clear hb hbox hg)|((with_reducible refine gate_dst (N:=3) rfl ?_);refine box_ev (N:=3) (cs:=#[.slice A1_0 l1_0.length c1_0,.slice A1_1 l1_1.length c1_1]) (t:=26) ?_;intro gb397 hg w70 hbox hb;have BK397:=Aside0.mk (hbox);have GW397 : Aside0 (w.heap.size ≤ gb397):=gsz hg;have GE397:=GW397;have NB396_397:=nbl BK396 hg;have NB397_396:=nbr BK396 hg;replace BK396:=bkb BK396 hb;replace HB:=hbs hb;clear hb hbox hg;have hnb71:=NB396_397.out;have hnc71:=NB397_396.out;obtain ⟨_,_,_,_,_,_⟩:=cells3 BK396.out)|(go_at_call 48;(with_reducible refine (hinterlandref02_Validate.calls k a0_0 a0_1 _ _ l0_2 t398 _ ?_ ?_ A3.out).mono ?_);exact cq HR0_2;exact HC0_2.out;rintro e w73 ⟨rfl,hb⟩;replace BK396:=bkb BK396 hb;replace BK397:=bkb BK397 hb;replace HB:=hbs hb;obtain ⟨_,_,_,_⟩:=cells2 BK397.out;obtain ⟨_,_,_,_,_,_⟩:=cells3 BK396.out))
  go_ret
  exact ⟨er_,hb_⟩
 rw [if_pos c5] at H
 have c5b0:=bqt c5
 have c5b1:=bnf c5
 clear c5
 have H':=Aside0.mk H
 clear H
 go_enter Try.func23,Try.ntmps23
 go_wp2_with (first|((with_reducible refine gate_dst (N:=2) rfl ?_);refine box_ev (N:=2) (cs:=#[.int .i64 a0_0,.int .i64 a0_1,.slice A0_2 l0_2.length c0_2]) (t:=24) ?_;intro gb396 hg w6 hbox hb;have BK396:=Aside0.mk (hbox);have GW396 : Aside0 (w.heap.size ≤ gb396):=gsz hg;have GE396:=GW396;replace HB:=hbs hb;clear hb hbox hg)|((with_reducible refine gate_dst (N:=3) rfl ?_);refine box_ev (N:=3) (cs:=#[.slice A1_0 l1_0.length c1_0,.slice A1_1 l1_1.length c1_1]) (t:=26) ?_;intro gb397 hg w7 hbox hb;have BK397:=Aside0.mk (hbox);have GW397 : Aside0 (w.heap.size ≤ gb397):=gsz hg;have GE397:=GW397;have NB396_397:=nbl BK396 hg;have NB397_396:=nbr BK396 hg;replace BK396:=bkb BK396 hb;replace HB:=hbs hb;clear hb hbox hg;have hnb8:=NB396_397.out;have hnc8:=NB397_396.out;obtain ⟨_,_,_,_,_,_⟩:=cells3 BK396.out)|(go_at_call 48;(with_reducible refine (hinterlandref02_Validate.calls k a0_0 a0_1 _ _ l0_2 t398 _ ?_ ?_ A3.out).mono ?_);exact cq HR0_2;exact HC0_2.out;rintro e w10 ⟨rfl,hb⟩;replace BK396:=bkb BK396 hb;replace BK397:=bkb BK397 hb;replace HB:=hbs hb;obtain ⟨_,_,_,_⟩:=cells2 BK397.out;obtain ⟨_,_,_,_,_,_⟩:=cells3 BK396.out))
 go_loopg [32] k (fun kq v32 w' => ∃ (x32_1 : Int),v32 = .int .i64 x32_1 ∧ Aside0 (hinterlandref06_Validate.l0 kq l1_0 (l1_0.length : Int) x32_1 a0_0 a0_1 l0_2 l1_0 l1_1 = some r) ∧ Aside0 (kq ≤ k) ∧ Aside0 (w'.heap[gb396]? = some (.cells #[.int .i64 a0_0,.int .i64 a0_1,(.slice A0_2 l0_2.length c0_2)] 24 (0,0))) ∧ Aside0 (w'.heap[gb397]? = some (.cells #[(.slice A1_0 l1_0.length c1_0),(.slice A1_1 l1_1.length c1_1)] 26 (0,0))) ∧ Aside0 (Below w.heap.size w w'))
 case atStart => exact ⟨(0),(by first|rfl|(simp;done)|(simp [*];done)),H',⟨Nat.le_refl _⟩,⟨blk_up BK396.out⟩,⟨blk_up BK397.out⟩,⟨hb_⟩⟩
 case round =>
  clear H'
  obtain ⟨x32_1,rfl,HA,HK1,BK396,BK397,HB⟩:=hrel
  cases gk with
  | zero => exact absurd HA.out (by simp [hinterlandref06_Validate.l0])
  | succ k1 =>
   have H:=HA.out
   clear HA
   simp only [hinterlandref06_Validate.l0] at H
   by_cases c13 : x32_1 < (l1_0.length : Int)
   ·rw [if_pos c13] at H
    have c13b0 : decide (x32_1 < (l1_0.length : Int)) = true:=decide_eq_true c13
    clear c13
    replace H:=ifp_ H;obtain ⟨c14,H⟩:=H
    have c14b0 : decide (0 ≤ x32_1) = true:=decide_eq_true c14
    clear c14
    replace H:=ifp_ H;obtain ⟨c15,H⟩:=H
    have c15b0 : decide (x32_1 < (l1_0.length : Int)) = true:=decide_eq_true c15
    clear c15
    by_cases c16 : (rd l1_0 x32_1) < 0
    ·rw [if_pos c16] at H
     have c16b0 : decide ((rd l1_0 x32_1) < 0) = true:=decide_eq_true c16
     clear c16
     obtain rfl:=Option.some.inj H
     have p399 : 0 ≤ (x32_1 : Int):=of_decide_eq_true (by first|(with_reducible assumption)|assumption)
     have q399 : x32_1 < (l1_0.length : Int):=of_decide_eq_true (by first|(with_reducible assumption)|assumption)
     obtain ⟨ad399,e399,hx399_0⟩:=Kd.at_int HR1_0.out x32_1 p399 q399
     cases e399
     replace hx399_0:=(HB.out.cell (World.block_lt_of_cell? w _ hx399_0)).trans hx399_0
     replace p399:=eq_true p399
     replace q399:=eq_true q399
     go_wp2
     go_ret
     exact ⟨er_,hb_⟩
    rw [if_neg c16] at H
    have c16b0 : decide ((rd l1_0 x32_1) < 0) = false:=decide_eq_false c16
    clear c16
    by_cases c17 : (rd l1_0 x32_1) > 3
    ·rw [if_pos c17] at H
     have c17b0 : decide (3 < (rd l1_0 x32_1)) = true:=decide_eq_true c17
     clear c17
     obtain rfl:=Option.some.inj H
     have p399 : 0 ≤ (x32_1 : Int):=of_decide_eq_true (by first|(with_reducible assumption)|assumption)
     have q399 : x32_1 < (l1_0.length : Int):=of_decide_eq_true (by first|(with_reducible assumption)|assumption)
     obtain ⟨ad399,e399,hx399_0⟩:=Kd.at_int HR1_0.out x32_1 p399 q399
     cases e399
     replace hx399_0:=(HB.out.cell (World.block_lt_of_cell? w _ hx399_0)).trans hx399_0
     replace p399:=eq_true p399
     replace q399:=eq_true q399
     go_wp2
     go_ret
     exact ⟨er_,hb_⟩
    ·rw [if_neg c17] at H
     have c17b0 : decide (3 < (rd l1_0 x32_1)) = false:=decide_eq_false c17
     clear c17
     have H':=Aside0.mk H
     clear H
     have p399 : 0 ≤ (x32_1 : Int):=of_decide_eq_true (by first|(with_reducible assumption)|assumption)
     have q399 : x32_1 < (l1_0.length : Int):=of_decide_eq_true (by first|(with_reducible assumption)|assumption)
     obtain ⟨ad399,e399,hx399_0⟩:=Kd.at_int HR1_0.out x32_1 p399 q399
     cases e399
     replace hx399_0:=(HB.out.cell (World.block_lt_of_cell? w _ hx399_0)).trans hx399_0
     replace p399:=eq_true p399
     replace q399:=eq_true q399
     go_wp2
     go_roundg k1
     case measure => have:=HK1.out;omega
     case rel => exact ⟨(wrap64 (x32_1 + 1)),(by first|rfl|(simp;done)|(simp [*];done)),H',⟨by have:=HK1.out;omega⟩,⟨blk_up BK396.out⟩,⟨blk_up BK397.out⟩,⟨hb_⟩⟩
   rw [if_neg c13] at H
   have c13b0 : decide (x32_1 < (l1_0.length : Int)) = false:=decide_eq_false c13
   clear c13
   have H':=Aside0.mk H
   clear H
   go_wp2
   go_loopg [8] k1 (fun kq v8 w' => ∃ (x8_2 : Int),v8 = .int .i64 x8_2 ∧ Aside0 (hinterlandref06_Validate.l1 kq x8_2 a0_0 a0_1 l0_2 l1_0 l1_1 = some r) ∧ Aside0 (kq ≤ k1) ∧ Aside0 (w'.heap[gb396]? = some (.cells #[.int .i64 a0_0,.int .i64 a0_1,(.slice A0_2 l0_2.length c0_2)] 24 (0,0))) ∧ Aside0 (w'.heap[gb397]? = some (.cells #[(.slice A1_0 l1_0.length c1_0),(.slice A1_1 l1_1.length c1_1)] 26 (0,0))) ∧ Aside0 (Below w.heap.size w w'))
   case atStart => exact ⟨(1),(by first|rfl|(simp;done)|(simp [*];done)),H',⟨Nat.le_refl _⟩,⟨blk_up BK396.out⟩,⟨blk_up BK397.out⟩,⟨hb_⟩⟩
   case round =>
    clear H'
    obtain ⟨x8_2,rfl,HA,HK2,BK396,BK397,HB⟩:=hrel
    cases gk with
    | zero => exact absurd HA.out (by simp [hinterlandref06_Validate.l1])
    | succ k2 =>
     have H:=HA.out
     clear HA
     simp only [hinterlandref06_Validate.l1] at H
     by_cases c18 : x8_2 < (l1_1.length : Int)
     ·rw [if_pos c18] at H
      have c18b0 : decide (x8_2 < (l1_1.length : Int)) = true:=decide_eq_true c18
      clear c18
      obtain ⟨ji19,hji19⟩ : ∃ j_ : Int,(wrap64 (x8_2 - 1)) = j_:=⟨_,rfl⟩
      replace H : (if 0 ≤ (ji19) then (if (ji19) < (l1_1.length : Int) then (if 0 ≤ x8_2 then (if (rd l1_1 (ji19)) ≥ (rd l1_1 x8_2) then (some 1) else (hinterlandref06_Validate.l1 k2 (wrap64 (x8_2 + 1)) a0_0 a0_1 l0_2 l1_0 l1_1)) else (none)) else (none)) else (none)) = some r:=by first|(rw [hji19] at H;exact H)|(simp only [hji19] at H ⊢;exact H)
      have hji19w : (IntKind.i64.wrap (x8_2 - 1)) = ji19:=(i64_w _).trans hji19
      replace H:=ifp_ H;obtain ⟨c20,H⟩:=H
      have c20b0 : decide (0 ≤ (ji19)) = true:=decide_eq_true c20
      clear c20
      replace H:=ifp_ H;obtain ⟨c21,H⟩:=H
      have c21b0 : decide ((ji19) < (l1_1.length : Int)) = true:=decide_eq_true c21
      clear c21
      replace H:=ifp_ H;obtain ⟨c22,H⟩:=H
      have c22b0 : decide (0 ≤ x8_2) = true:=decide_eq_true c22
      clear c22
      by_cases c23 : (rd l1_1 (ji19)) ≥ (rd l1_1 x8_2)
      ·rw [if_pos c23] at H
       have c23b0 : decide ((rd l1_1 x8_2) ≤ (rd l1_1 (ji19))) = true:=decide_eq_true c23
       clear c23
       obtain rfl:=Option.some.inj H
       have hnb24:=NB397_396.out
       have hnc24:=NB396_397.out
       obtain ⟨_,_,_,_⟩:=cells2 BK397.out
       have p400 : 0 ≤ ((ji19) : Int):=of_decide_eq_true (by first|(with_reducible assumption)|assumption)
       have q400 : (ji19) < (l1_1.length : Int):=of_decide_eq_true (by first|(with_reducible assumption)|assumption)
       obtain ⟨ad400,e400,hx400_0⟩:=Kd.at_int HR1_1.out (ji19) p400 q400
       cases e400
       replace hx400_0:=(HB.out.cell (World.block_lt_of_cell? w _ hx400_0)).trans hx400_0
       replace p400:=eq_true p400
       replace q400:=eq_true q400
       have p401 : 0 ≤ (x8_2 : Int):=of_decide_eq_true (by first|(with_reducible assumption)|assumption)
       have q401 : x8_2 < (l1_1.length : Int):=of_decide_eq_true (by first|(with_reducible assumption)|assumption)
       obtain ⟨ad401,e401,hx401_0⟩:=Kd.at_int HR1_1.out x8_2 p401 q401
       obtain rfl : ad400 = ad401:=(by injection e401)
       replace hx401_0:=(HB.out.cell (World.block_lt_of_cell? w _ hx401_0)).trans hx401_0
       replace p401:=eq_true p401
       replace q401:=eq_true q401
       go_wp2
       go_quiet (fail)
       go_wp2
       go_ret
       exact ⟨by first|rfl|(simp [errW_none,errW_some] <;> rfl)|(simp only [← hji19];first|rfl|(simp [errW_none,errW_some] <;> rfl))|(simp [*,errW_none,errW_some] <;> rfl),hb_⟩
      ·rw [if_neg c23] at H
       have c23b0 : decide ((rd l1_1 x8_2) ≤ (rd l1_1 (ji19))) = false:=decide_eq_false c23
       clear c23
       have H':=Aside0.mk H
       clear H
       have hnb26:=NB397_396.out
       have hnc26:=NB396_397.out
       obtain ⟨_,_,_,_⟩:=cells2 BK397.out
       have p400 : 0 ≤ ((ji19) : Int):=of_decide_eq_true (by first|(with_reducible assumption)|assumption)
       have q400 : (ji19) < (l1_1.length : Int):=of_decide_eq_true (by first|(with_reducible assumption)|assumption)
       obtain ⟨ad400,e400,hx400_0⟩:=Kd.at_int HR1_1.out (ji19) p400 q400
       cases e400
       replace hx400_0:=(HB.out.cell (World.block_lt_of_cell? w _ hx400_0)).trans hx400_0
       replace p400:=eq_true p400
       replace q400:=eq_true q400
       have p401 : 0 ≤ (x8_2 : Int):=of_decide_eq_true (by first|(with_reducible assumption)|assumption)
       have q401 : x8_2 < (l1_1.length : Int):=of_decide_eq_true (by first|(with_reducible assumption)|assumption)
       obtain ⟨ad401,e401,hx401_0⟩:=Kd.at_int HR1_1.out x8_2 p401 q401
       obtain rfl : ad400 = ad401:=(by injection e401)
       replace hx401_0:=(HB.out.cell (World.block_lt_of_cell? w _ hx401_0)).trans hx401_0
       replace p401:=eq_true p401
       replace q401:=eq_true q401
       go_wp2
       go_quiet (fail)
       go_wp2
       go_roundg k2
       case measure => have:=HK1.out;have:=HK2.out;omega
       case rel => exact ⟨(wrap64 (x8_2 + 1)),(by first|rfl|(simp;done)|(simp [*];done)),H',⟨by have:=HK1.out;have:=HK2.out;omega⟩,⟨blk_up BK396.out⟩,⟨blk_up BK397.out⟩,⟨hb_⟩⟩
     rw [if_neg c18] at H
     have c18b0 : decide (x8_2 < (l1_1.length : Int)) = false:=decide_eq_false c18
     clear c18
     have H':=Aside0.mk H
     clear H
     have hnb28:=NB397_396.out
     have hnc28:=NB396_397.out
     obtain ⟨_,_,_,_⟩:=cells2 BK397.out
     go_wp2
     go_loopg [65] k2 (fun kq v65 w' => ∃ (x65_3 : Int),v65 = .int .i64 x65_3 ∧ Aside0 (hinterlandref06_Validate.l2 kq l1_1 (l1_1.length : Int) x65_3 a0_0 a0_1 l0_2 l1_0 l1_1 = some r) ∧ Aside0 (kq ≤ k2) ∧ Aside0 (w'.heap[gb396]? = some (.cells #[.int .i64 a0_0,.int .i64 a0_1,(.slice A0_2 l0_2.length c0_2)] 24 (0,0))) ∧ Aside0 (w'.heap[gb397]? = some (.cells #[(.slice A1_0 l1_0.length c1_0),(.slice A1_1 l1_1.length c1_1)] 26 (0,0))) ∧ Aside0 (Below w.heap.size w w'))
     case atStart => exact ⟨(0),(by first|rfl|(simp;done)|(simp [*];done)),H',⟨Nat.le_refl _⟩,⟨blk_up BK396.out⟩,⟨blk_up BK397.out⟩,⟨hb_⟩⟩
     case round =>
      clear H'
      obtain ⟨x65_3,rfl,HA,HK3,BK396,BK397,HB⟩:=hrel
      cases gk with
      | zero => exact absurd HA.out (by simp [hinterlandref06_Validate.l2])
      | succ k3 =>
       have H:=HA.out
       clear HA
       simp only [hinterlandref06_Validate.l2] at H
       by_cases c30 : x65_3 < (l1_1.length : Int)
       ·rw [if_pos c30] at H
        have c30b0 : decide (x65_3 < (l1_1.length : Int)) = true:=decide_eq_true c30
        clear c30
        replace H:=ifp_ H;obtain ⟨c31,H⟩:=H
        have c31b0 : decide (0 ≤ x65_3) = true:=decide_eq_true c31
        clear c31
        replace H:=ifp_ H;obtain ⟨c32,H⟩:=H
        have c32b0 : decide (x65_3 < (l1_1.length : Int)) = true:=decide_eq_true c32
        clear c32
        replace H:=Option.bind_eq_some_iff.mp H
        obtain ⟨t403,A330,H⟩:=H
        replace H : (if t403 = true then (hinterlandref06_Validate.l2 k3 l1_1 (l1_1.length : Int) (wrap64 (x65_3 + 1)) a0_0 a0_1 l0_2 l1_0 l1_1) else (some 2)) = some r:=H
        have A33:=Aside0.mk A330
        clear A330
        by_cases c34 : t403 = true
        ·subst c34
         have H1 : (hinterlandref06_Validate.l2 k3 l1_1 (l1_1.length : Int) (wrap64 (x65_3 + 1)) a0_0 a0_1 l0_2 l1_0 l1_1) = some r:=by rw [if_pos rfl] at H;exact H
         clear H
         have H:=H1
         clear H1
         have H':=Aside0.mk H
         clear H
         have p402 : 0 ≤ (x65_3 : Int):=of_decide_eq_true (by first|(with_reducible assumption)|assumption)
         have q402 : x65_3 < (l1_1.length : Int):=of_decide_eq_true (by first|(with_reducible assumption)|assumption)
         obtain ⟨ad402,e402,hx402_0⟩:=Kd.at_int HR1_1.out x65_3 p402 q402
         cases e402
         replace hx402_0:=(HB.out.cell (World.block_lt_of_cell? w _ hx402_0)).trans hx402_0
         replace p402:=eq_true p402
         replace q402:=eq_true q402
         have hnb35:=NB396_397.out
         have hnc35:=NB397_396.out
         obtain ⟨_,_,_,_,_,_⟩:=cells3 BK396.out
         go_wp2_with (first|(go_at_call 33;(with_reducible refine (hinterlandref02_Is.calls a0_0 a0_1 _ _ l0_2 (rd l1_1 x65_3) true _ ?_ ?_ A33.out).mono ?_);exact cq HR0_2;exact HC0_2.out;rintro e w37 ⟨rfl,hb⟩;replace BK396:=bkb BK396 hb;replace BK397:=bkb BK397 hb;replace HB:=hbs hb))
         go_roundg k3
         case measure => have:=HK1.out;have:=HK2.out;have:=HK3.out;omega
         case rel => exact ⟨(wrap64 (x65_3 + 1)),(by first|rfl|(simp;done)|(simp [*];done)),H',⟨by have:=HK1.out;have:=HK2.out;have:=HK3.out;omega⟩,⟨blk_up BK396.out⟩,⟨blk_up BK397.out⟩,⟨hb_⟩⟩
        ·replace c34:=Bool.eq_false_iff.mpr c34
         subst c34
         have H1 : (some 2) = some r:=by rw [if_neg (show ¬ (false = true) by decide)] at H;exact H
         clear H
         have H:=H1
         clear H1
         obtain rfl:=Option.some.inj H
         have p402 : 0 ≤ (x65_3 : Int):=of_decide_eq_true (by first|(with_reducible assumption)|assumption)
         have q402 : x65_3 < (l1_1.length : Int):=of_decide_eq_true (by first|(with_reducible assumption)|assumption)
         obtain ⟨ad402,e402,hx402_0⟩:=Kd.at_int HR1_1.out x65_3 p402 q402
         cases e402
         replace hx402_0:=(HB.out.cell (World.block_lt_of_cell? w _ hx402_0)).trans hx402_0
         replace p402:=eq_true p402
         replace q402:=eq_true q402
         have hnb38:=NB396_397.out
         have hnc38:=NB397_396.out
         obtain ⟨_,_,_,_,_,_⟩:=cells3 BK396.out
         go_wp2_with (first|(go_at_call 33;(with_reducible refine (hinterlandref02_Is.calls a0_0 a0_1 _ _ l0_2 (rd l1_1 x65_3) false _ ?_ ?_ A33.out).mono ?_);exact cq HR0_2;exact HC0_2.out;rintro e w40 ⟨rfl,hb⟩;replace BK396:=bkb BK396 hb;replace BK397:=bkb BK397 hb;replace HB:=hbs hb))
         go_ret
         exact ⟨er_,hb_⟩
       rw [if_neg c30] at H
       have c30b0 : decide (x65_3 < (l1_1.length : Int)) = false:=decide_eq_false c30
       clear c30
       have H':=Aside0.mk H
       clear H
       have hnb41:=NB397_396.out
       have hnc41:=NB396_397.out
       obtain ⟨_,_,_,_⟩:=cells2 BK397.out
       go_wp2
       go_loopg [77] k3 (fun kq v77 w' => ∃ (x77_4 : Int),v77 = .int .i64 x77_4 ∧ Aside0 (hinterlandref06_Validate.l3 kq l1_0 (l1_0.length : Int) x77_4 a0_0 a0_1 l0_2 l1_0 l1_1 = some r) ∧ Aside0 (kq ≤ k3) ∧ Aside0 (w'.heap[gb396]? = some (.cells #[.int .i64 a0_0,.int .i64 a0_1,(.slice A0_2 l0_2.length c0_2)] 24 (0,0))) ∧ Aside0 (w'.heap[gb397]? = some (.cells #[(.slice A1_0 l1_0.length c1_0),(.slice A1_1 l1_1.length c1_1)] 26 (0,0))) ∧ Aside0 (Below w.heap.size w w'))
       case atStart => exact ⟨(0),(by first|rfl|(simp;done)|(simp [*];done)),H',⟨Nat.le_refl _⟩,⟨blk_up BK396.out⟩,⟨blk_up BK397.out⟩,⟨hb_⟩⟩
       case round =>
        clear H'
        obtain ⟨x77_4,rfl,HA,HK4,BK396,BK397,HB⟩:=hrel
        cases gk with
        | zero => exact absurd HA.out (by simp [hinterlandref06_Validate.l3])
        | succ k4 =>
         have H:=HA.out
         clear HA
         simp only [hinterlandref06_Validate.l3] at H
         by_cases c43 : x77_4 < (l1_0.length : Int)
         ·rw [if_pos c43] at H
          have c43b0 : decide (x77_4 < (l1_0.length : Int)) = true:=decide_eq_true c43
          clear c43
          replace H:=ifp_ H;obtain ⟨c44,H⟩:=H
          have c44b0 : decide (0 ≤ x77_4) = true:=decide_eq_true c44
          clear c44
          replace H:=ifp_ H;obtain ⟨c45,H⟩:=H
          have c45b0 : decide (x77_4 < (l1_0.length : Int)) = true:=decide_eq_true c45
          clear c45
          replace H:=Option.bind_eq_some_iff.mp H
          obtain ⟨t405,A460,H⟩:=H
          replace H : (if t405 = 0 then (hinterlandref06_Validate.l3 k4 l1_0 (l1_0.length : Int) (wrap64 (x77_4 + 1)) a0_0 a0_1 l0_2 l1_0 l1_1) else (some 9)) = some r:=H
          have A46:=Aside0.mk A460
          clear A460
          by_cases c47 : t405 = 0
          ·rw [if_pos c47] at H
           have c47b0:=bqt c47
           have c47b1:=bnf c47
           clear c47
           have H':=Aside0.mk H
           clear H
           have p404 : 0 ≤ (x77_4 : Int):=of_decide_eq_true (by first|(with_reducible assumption)|assumption)
           have q404 : x77_4 < (l1_0.length : Int):=of_decide_eq_true (by first|(with_reducible assumption)|assumption)
           obtain ⟨ad404,e404,hx404_0⟩:=Kd.at_int HR1_0.out x77_4 p404 q404
           cases e404
           replace hx404_0:=(HB.out.cell (World.block_lt_of_cell? w _ hx404_0)).trans hx404_0
           replace p404:=eq_true p404
           replace q404:=eq_true q404
           have hnb48:=NB396_397.out
           have hnc48:=NB397_396.out
           obtain ⟨_,_,_,_,_,_⟩:=cells3 BK396.out
           go_wp2_with (first|(go_at_call 49;(with_reducible refine (hinterlandref06_lies.calls k4 a0_0 a0_1 _ _ l0_2 x77_4 (rd l1_0 x77_4) t405 _ ?_ ?_ A46.out).mono ?_);exact cq HR0_2;exact HC0_2.out;rintro e w50 ⟨rfl,hb⟩;replace BK396:=bkb BK396 hb;replace BK397:=bkb BK397 hb;replace HB:=hbs hb))
           go_roundg k4
           case measure => have:=HK1.out;have:=HK2.out;have:=HK3.out;have:=HK4.out;omega
           case rel => exact ⟨(wrap64 (x77_4 + 1)),(by first|rfl|(simp;done)|(simp [*];done)),H',⟨by have:=HK1.out;have:=HK2.out;have:=HK3.out;have:=HK4.out;omega⟩,⟨blk_up BK396.out⟩,⟨blk_up BK397.out⟩,⟨hb_⟩⟩
          ·rw [if_neg c47] at H
           have c47b0:=bqf c47
           have c47b1:=bnt c47
           obtain rfl:=Option.some.inj H
           have p404 : 0 ≤ (x77_4 : Int):=of_decide_eq_true (by first|(with_reducible assumption)|assumption)
           have q404 : x77_4 < (l1_0.length : Int):=of_decide_eq_true (by first|(with_reducible assumption)|assumption)
           obtain ⟨ad404,e404,hx404_0⟩:=Kd.at_int HR1_0.out x77_4 p404 q404
           cases e404
           replace hx404_0:=(HB.out.cell (World.block_lt_of_cell? w _ hx404_0)).trans hx404_0
           replace p404:=eq_true p404
           replace q404:=eq_true q404
           have hnb51:=NB396_397.out
           have hnc51:=NB397_396.out
           obtain ⟨_,_,_,_,_,_⟩:=cells3 BK396.out
           go_wp2_with (first|(go_at_call 49;(with_reducible refine (hinterlandref06_lies.calls k4 a0_0 a0_1 _ _ l0_2 x77_4 (rd l1_0 x77_4) t405 _ ?_ ?_ A46.out).mono ?_);exact cq HR0_2;exact HC0_2.out;rintro e w53 ⟨rfl,hb⟩;replace BK396:=bkb BK396 hb;replace BK397:=bkb BK397 hb;replace HB:=hbs hb))
           go_ret
           exact ⟨er_,hb_⟩
         rw [if_neg c43] at H
         have c43b0 : decide (x77_4 < (l1_0.length : Int)) = false:=decide_eq_false c43
         clear c43
         have H':=Aside0.mk H
         clear H
         have hnb54:=NB397_396.out
         have hnc54:=NB396_397.out
         obtain ⟨_,_,_,_⟩:=cells2 BK397.out
         go_wp2
         go_loopg [91] k4 (fun kq v91 w' => ∃ (x91_5 : Int),v91 = .int .i64 x91_5 ∧ Aside0 (hinterlandref06_Validate.l4 kq l1_1 (l1_1.length : Int) x91_5 a0_0 a0_1 l0_2 l1_0 l1_1 = some r) ∧ Aside0 (kq ≤ k4) ∧ Aside0 (w'.heap[gb396]? = some (.cells #[.int .i64 a0_0,.int .i64 a0_1,(.slice A0_2 l0_2.length c0_2)] 24 (0,0))) ∧ Aside0 (w'.heap[gb397]? = some (.cells #[(.slice A1_0 l1_0.length c1_0),(.slice A1_1 l1_1.length c1_1)] 26 (0,0))) ∧ Aside0 (Below w.heap.size w w'))
         case atStart => exact ⟨(0),(by first|rfl|(simp;done)|(simp [*];done)),H',⟨Nat.le_refl _⟩,⟨blk_up BK396.out⟩,⟨blk_up BK397.out⟩,⟨hb_⟩⟩
         case round =>
          clear H'
          obtain ⟨x91_5,rfl,HA,HK5,BK396,BK397,HB⟩:=hrel
          cases gk with
          | zero => exact absurd HA.out (by simp [hinterlandref06_Validate.l4])
          | succ k5 =>
           have H:=HA.out
           clear HA
           simp only [hinterlandref06_Validate.l4] at H
           by_cases c56 : x91_5 < (l1_1.length : Int)
           ·rw [if_pos c56] at H
            have c56b0 : decide (x91_5 < (l1_1.length : Int)) = true:=decide_eq_true c56
            clear c56
            replace H:=ifp_ H;obtain ⟨c57,H⟩:=H
            have c57b0 : decide (0 ≤ x91_5) = true:=decide_eq_true c57
            clear c57
            replace H:=ifp_ H;obtain ⟨c58,H⟩:=H
            have c58b0 : decide (x91_5 < (l1_1.length : Int)) = true:=decide_eq_true c58
            clear c58
            replace H:=Option.bind_eq_some_iff.mp H
            obtain ⟨t407,A590,H⟩:=H
            replace H : (if t407 = true then (hinterlandref06_Validate.l4 k5 l1_1 (l1_1.length : Int) (wrap64 (x91_5 + 1)) a0_0 a0_1 l0_2 l1_0 l1_1) else (some 9)) = some r:=H
            have A59:=Aside0.mk A590
            clear A590
            by_cases c60 : t407 = true
            ·subst c60
             have H1 : (hinterlandref06_Validate.l4 k5 l1_1 (l1_1.length : Int) (wrap64 (x91_5 + 1)) a0_0 a0_1 l0_2 l1_0 l1_1) = some r:=by rw [if_pos rfl] at H;exact H
             clear H
             have H:=H1
             clear H1
             have H':=Aside0.mk H
             clear H
             have p406 : 0 ≤ (x91_5 : Int):=of_decide_eq_true (by first|(with_reducible assumption)|assumption)
             have q406 : x91_5 < (l1_1.length : Int):=of_decide_eq_true (by first|(with_reducible assumption)|assumption)
             obtain ⟨ad406,e406,hx406_0⟩:=Kd.at_int HR1_1.out x91_5 p406 q406
             cases e406
             replace hx406_0:=(HB.out.cell (World.block_lt_of_cell? w _ hx406_0)).trans hx406_0
             replace p406:=eq_true p406
             replace q406:=eq_true q406
             have hnb61:=NB396_397.out
             have hnc61:=NB397_396.out
             obtain ⟨_,_,_,_,_,_⟩:=cells3 BK396.out
             obtain ⟨_,_,_,_⟩:=cells2 BK397.out
             go_wp2_with (first|(go_at_call 47;(with_reducible refine (hinterlandref06_Wet.calls k5 a0_0 a0_1 _ _ l0_2 _ _ l1_0 (rd l1_1 x91_5) true _ ?_ ?_ ?_ ?_ A59.out).mono ?_);exact cq HR0_2;exact HC0_2.out;exact cq HR1_0;exact HC1_0.out;rintro e w64 ⟨rfl,hb⟩;replace BK396:=bkb BK396 hb;replace BK397:=bkb BK397 hb;replace HB:=hbs hb))
             go_roundg k5
             case measure => have:=HK1.out;have:=HK2.out;have:=HK3.out;have:=HK4.out;have:=HK5.out;omega
             case rel => exact ⟨(wrap64 (x91_5 + 1)),(by first|rfl|(simp;done)|(simp [*];done)),H',⟨by have:=HK1.out;have:=HK2.out;have:=HK3.out;have:=HK4.out;have:=HK5.out;omega⟩,⟨blk_up BK396.out⟩,⟨blk_up BK397.out⟩,⟨hb_⟩⟩
            ·replace c60:=Bool.eq_false_iff.mpr c60
             subst c60
             have H1 : (some 9) = some r:=by rw [if_neg (show ¬ (false = true) by decide)] at H;exact H
             clear H
             have H:=H1
             clear H1
             obtain rfl:=Option.some.inj H
             have p406 : 0 ≤ (x91_5 : Int):=of_decide_eq_true (by first|(with_reducible assumption)|assumption)
             have q406 : x91_5 < (l1_1.length : Int):=of_decide_eq_true (by first|(with_reducible assumption)|assumption)
             obtain ⟨ad406,e406,hx406_0⟩:=Kd.at_int HR1_1.out x91_5 p406 q406
             cases e406
             replace hx406_0:=(HB.out.cell (World.block_lt_of_cell? w _ hx406_0)).trans hx406_0
             replace p406:=eq_true p406
             replace q406:=eq_true q406
             have hnb65:=NB396_397.out
             have hnc65:=NB397_396.out
             obtain ⟨_,_,_,_,_,_⟩:=cells3 BK396.out
             obtain ⟨_,_,_,_⟩:=cells2 BK397.out
             go_wp2_with (first|(go_at_call 47;(with_reducible refine (hinterlandref06_Wet.calls k5 a0_0 a0_1 _ _ l0_2 _ _ l1_0 (rd l1_1 x91_5) false _ ?_ ?_ ?_ ?_ A59.out).mono ?_);exact cq HR0_2;exact HC0_2.out;exact cq HR1_0;exact HC1_0.out;rintro e w68 ⟨rfl,hb⟩;replace BK396:=bkb BK396 hb;replace BK397:=bkb BK397 hb;replace HB:=hbs hb))
             go_ret
             exact ⟨er_,hb_⟩
           ·rw [if_neg c56] at H
            have c56b0 : decide (x91_5 < (l1_1.length : Int)) = false:=decide_eq_false c56
            clear c56
            obtain rfl:=Option.some.inj H
            go_wp2
            go_ret
            exact ⟨er_,hb_⟩

end Go.Proofs.Ytiencnnkphipoaa.P

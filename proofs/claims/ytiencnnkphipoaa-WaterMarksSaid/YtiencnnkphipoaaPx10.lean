/- Functions of this seat as plain Lean functions, with proofs that the Go code comes to just their answers, or what stands between them and a law's statement; no conditions. (Laid by a program of this session, out of the kit's print.) -/
import Derived.Test.YtiencnnkphipoaaPx0
import Derived.Test.YtiencnnkphipoaaPx8
import Derived.Test.YtiencnnkphipoaaPx9
namespace Go.Proofs.Ytiencnnkphipoaa.P
open Go.RowKit Go.Proofs.YtiencnnkphipoaaW.PrintWords Go.Proofs.YtiencnnkphipoaaW.PrintLast Go.Proofs.YtiencnnkphipoaaW.PrintMore
attribute [local go_sem] max2_int min2_int max_two min_two max_three min_three max_four min_four   -- for this text's walks alone
set_option linter.unusedVariables false
set_option linter.unusedSimpArgs false

/-! ### hinterlandref06_place: function 42 -/
def hinterlandref06_place.f (k : Nat) (a0_0 : Int) (a0_1 : Int) (l0_2 : List Int) (l1_0 : List Int) (l1_1 : List Int) (a2 : Int) : Option (Int) := (hinterlandref06_Validate.f k a0_0 a0_1 l0_2 l1_0 l1_1).bind fun t410 => (if t410 = 0 then ((hinterlandref02_Is.f a0_0 a0_1 l0_2 a2).bind fun t411 => (if t411 = true then (some 0) else (some 2))) else (some t410))
theorem hinterlandref06_place.mono : ∀ a0 a1 a2 a3 a4 a5 k, LeO (hinterlandref06_place.f k a0 a1 a2 a3 a4 a5) (hinterlandref06_place.f (k + 1) a0 a1 a2 a3 a4 a5) := by
 intro a0 a1 a2 a3 a4 a5 k
 unfold hinterlandref06_place.f
 repeat' first
   | (with_reducible exact hinterlandref06_Validate.mono _ _ _ _ _ _)
   | (with_reducible exact LeO.refl _)
   | (with_reducible exact LeO.none _)
   | (with_reducible refine LeO.ite ?_ ?_)
   | (with_reducible refine LeO.bind ?_ (fun _ => ?_))
   | exact hinterlandref06_Validate.mono _ _ _ _ _ _
   | exact LeO.none _
   | refine LeO.ite ?_ ?_
   | refine LeO.bind ?_ (fun _ => ?_)
set_option maxHeartbeats 8000000 in
set_option maxRecDepth 100000 in
theorem hinterlandref06_place.calls (k : Nat) (a0_0 : Int) (a0_1 : Int) (A0_2 : Option Addr) (c0_2 : Nat) (l0_2 : List Int) (A1_0 : Option Addr) (c1_0 : Nat) (l1_0 : List Int) (A1_1 : Option Addr) (c1_1 : Nat) (l1_1 : List Int) (a2 : Int) (r : Int) (w : World) (hr0_2 : Kd.C (Kd.int .i64) w A0_2 l0_2.length l0_2) (hc0_2 : l0_2.length ≤ c0_2) (hr1_0 : Kd.C (Kd.int .i64) w A1_0 l1_0.length l1_0) (hc1_0 : l1_0.length ≤ c1_0) (hr1_1 : Kd.C (Kd.int .i64) w A1_1 l1_1.length l1_1) (hc1_1 : l1_1.length ≤ c1_1) (h : hinterlandref06_place.f k a0_0 a0_1 l0_2 l1_0 l1_1 a2 = some r) :
  Calls Try.prog 42 #[.agg #[.int .i64 a0_0,.int .i64 a0_1,.slice A0_2 l0_2.length c0_2],.agg #[.slice A1_0 l1_0.length c1_0,.slice A1_1 l1_1.length c1_1],.int .i64 a2] w fun e w' => e = .returned (.int .i64 r) ∧ Below w.heap.size w w':=by
 have hu24:=Try.underlying24
 have hu26:=Try.underlying26
 have HR0_2:=Aside0.mk hr0_2
 have HC0_2:=Aside0.mk hc0_2
 clear hr0_2 hc0_2
 have HR1_0:=Aside0.mk hr1_0
 have HC1_0:=Aside0.mk hc1_0
 clear hr1_0 hc1_0
 have HR1_1:=Aside0.mk hr1_1
 have HC1_1:=Aside0.mk hc1_1
 clear hr1_1 hc1_1
 have HB:=Aside0.mk (Below.refl w.heap.size w)
 have H : ((hinterlandref06_Validate.f k a0_0 a0_1 l0_2 l1_0 l1_1).bind fun t410 => (if t410 = 0 then ((hinterlandref02_Is.f a0_0 a0_1 l0_2 a2).bind fun t411 => (if t411 = true then (some 0) else (some 2))) else (some t410))) = some r:=h
 clear h
 replace H:=Option.bind_eq_some_iff.mp H
 obtain ⟨t410,A40,H⟩:=H
 replace H : (if t410 = 0 then ((hinterlandref02_Is.f a0_0 a0_1 l0_2 a2).bind fun t411 => (if t411 = true then (some 0) else (some 2))) else (some t410)) = some r:=H
 have A4:=Aside0.mk A40
 clear A40
 by_cases c5 : t410 = 0
 ·rw [if_pos c5] at H
  have c5b0:=bqt c5
  have c5b1:=bnf c5
  clear c5
  replace H:=Option.bind_eq_some_iff.mp H
  obtain ⟨t411,A60,H⟩:=H
  replace H : (if t411 = true then (some 0) else (some 2)) = some r:=H
  have A6:=Aside0.mk A60
  clear A60
  by_cases c7 : t411 = true
  ·subst c7
   have H1 : (some 0) = some r:=by rw [if_pos rfl] at H;exact H
   clear H
   have H:=H1
   clear H1
   obtain rfl:=Option.some.inj H
   go_enter Try.func42,Try.ntmps42
   go_wp2_with (first|((with_reducible refine gate_dst (N:=3) rfl ?_);refine box_ev (N:=3) (cs:=#[.int .i64 a0_0,.int .i64 a0_1,.slice A0_2 l0_2.length c0_2]) (t:=24) ?_;intro gb408 hg w8 hbox hb;have BK408:=Aside0.mk (hbox);have GW408 : Aside0 (w.heap.size ≤ gb408):=gsz hg;have GE408:=GW408;replace HB:=hbs hb;clear hb hbox hg)|((with_reducible refine gate_dst (N:=4) rfl ?_);refine box_ev (N:=4) (cs:=#[.slice A1_0 l1_0.length c1_0,.slice A1_1 l1_1.length c1_1]) (t:=26) ?_;intro gb409 hg w9 hbox hb;have BK409:=Aside0.mk (hbox);have GW409 : Aside0 (w.heap.size ≤ gb409):=gsz hg;have GE409:=GW409;have NB408_409:=nbl BK408 hg;have NB409_408:=nbr BK408 hg;replace BK408:=bkb BK408 hb;replace HB:=hbs hb;clear hb hbox hg;have hnb10:=NB408_409.out;have hnc10:=NB409_408.out;obtain ⟨_,_,_,_,_,_⟩:=cells3 BK408.out;obtain ⟨_,_,_,_⟩:=cells2 BK409.out)|((with_reducible refine gate_callee (f:=23) rfl ?_);refine goesL_ (some 10) rfl rfl Try.func23 (by kernel_rfl) rfl #[.agg #[.int .i64 a0_0,.int .i64 a0_1,.slice A0_2 l0_2.length c0_2],.agg #[.slice A1_0 l1_0.length c1_0,.slice A1_1 l1_1.length c1_1]] rfl ga_ ?_;(with_reducible refine (hinterlandref06_Validate.calls k a0_0 a0_1 _ _ l0_2 _ _ l1_0 _ _ l1_1 t410 _ ?_ ?_ ?_ ?_ ?_ ?_ A4.out).mono ?_);exact cq HR0_2;exact HC0_2.out;exact cq HR1_0;exact HC1_0.out;exact cq HR1_1;exact HC1_1.out;rintro e w13 ⟨rfl,hb⟩;refine ⟨_,rfl,?_⟩;replace BK408:=bkb BK408 hb;replace BK409:=bkb BK409 hb;replace HB:=hbs hb;obtain ⟨_,_,_,_,_,_⟩:=cells3 BK408.out)|((with_reducible refine gate_callee (f:=33) rfl ?_);refine goesL_ (some 16) rfl rfl Try.func33 (by kernel_rfl) rfl #[.agg #[.int .i64 a0_0,.int .i64 a0_1,.slice A0_2 l0_2.length c0_2],.int .i64 a2] rfl ga_ ?_;(with_reducible refine (hinterlandref02_Is.calls a0_0 a0_1 _ _ l0_2 a2 true _ ?_ ?_ A6.out).mono ?_);exact cq HR0_2;exact HC0_2.out;rintro e w15 ⟨rfl,hb⟩;refine ⟨_,rfl,?_⟩;replace BK408:=bkb BK408 hb;replace BK409:=bkb BK409 hb;replace HB:=hbs hb))
   go_ret
   exact ⟨er_,hb_⟩
  ·replace c7:=Bool.eq_false_iff.mpr c7
   subst c7
   have H1 : (some 2) = some r:=by rw [if_neg (show ¬ (false = true) by decide)] at H;exact H
   clear H
   have H:=H1
   clear H1
   obtain rfl:=Option.some.inj H
   go_enter Try.func42,Try.ntmps42
   go_wp2_with (first|((with_reducible refine gate_dst (N:=3) rfl ?_);refine box_ev (N:=3) (cs:=#[.int .i64 a0_0,.int .i64 a0_1,.slice A0_2 l0_2.length c0_2]) (t:=24) ?_;intro gb408 hg w16 hbox hb;have BK408:=Aside0.mk (hbox);have GW408 : Aside0 (w.heap.size ≤ gb408):=gsz hg;have GE408:=GW408;replace HB:=hbs hb;clear hb hbox hg)|((with_reducible refine gate_dst (N:=4) rfl ?_);refine box_ev (N:=4) (cs:=#[.slice A1_0 l1_0.length c1_0,.slice A1_1 l1_1.length c1_1]) (t:=26) ?_;intro gb409 hg w17 hbox hb;have BK409:=Aside0.mk (hbox);have GW409 : Aside0 (w.heap.size ≤ gb409):=gsz hg;have GE409:=GW409;have NB408_409:=nbl BK408 hg;have NB409_408:=nbr BK408 hg;replace BK408:=bkb BK408 hb;replace HB:=hbs hb;clear hb hbox hg;have hnb18:=NB408_409.out;have hnc18:=NB409_408.out;obtain ⟨_,_,_,_,_,_⟩:=cells3 BK408.out;obtain ⟨_,_,_,_⟩:=cells2 BK409.out)|((with_reducible refine gate_callee (f:=23) rfl ?_);refine goesL_ (some 10) rfl rfl Try.func23 (by kernel_rfl) rfl #[.agg #[.int .i64 a0_0,.int .i64 a0_1,.slice A0_2 l0_2.length c0_2],.agg #[.slice A1_0 l1_0.length c1_0,.slice A1_1 l1_1.length c1_1]] rfl ga_ ?_;(with_reducible refine (hinterlandref06_Validate.calls k a0_0 a0_1 _ _ l0_2 _ _ l1_0 _ _ l1_1 t410 _ ?_ ?_ ?_ ?_ ?_ ?_ A4.out).mono ?_);exact cq HR0_2;exact HC0_2.out;exact cq HR1_0;exact HC1_0.out;exact cq HR1_1;exact HC1_1.out;rintro e w21 ⟨rfl,hb⟩;refine ⟨_,rfl,?_⟩;replace BK408:=bkb BK408 hb;replace BK409:=bkb BK409 hb;replace HB:=hbs hb;obtain ⟨_,_,_,_,_,_⟩:=cells3 BK408.out)|((with_reducible refine gate_callee (f:=33) rfl ?_);refine goesL_ (some 16) rfl rfl Try.func33 (by kernel_rfl) rfl #[.agg #[.int .i64 a0_0,.int .i64 a0_1,.slice A0_2 l0_2.length c0_2],.int .i64 a2] rfl ga_ ?_;(with_reducible refine (hinterlandref02_Is.calls a0_0 a0_1 _ _ l0_2 a2 false _ ?_ ?_ A6.out).mono ?_);exact cq HR0_2;exact HC0_2.out;rintro e w23 ⟨rfl,hb⟩;refine ⟨_,rfl,?_⟩;replace BK408:=bkb BK408 hb;replace BK409:=bkb BK409 hb;replace HB:=hbs hb))
   go_ret
   exact ⟨er_,hb_⟩
 ·rw [if_neg c5] at H
  have c5b0:=bqf c5
  have c5b1:=bnt c5
  obtain rfl:=Option.some.inj H
  go_enter Try.func42,Try.ntmps42
  go_wp2_with (first|((with_reducible refine gate_dst (N:=3) rfl ?_);refine box_ev (N:=3) (cs:=#[.int .i64 a0_0,.int .i64 a0_1,.slice A0_2 l0_2.length c0_2]) (t:=24) ?_;intro gb408 hg w24 hbox hb;have BK408:=Aside0.mk (hbox);have GW408 : Aside0 (w.heap.size ≤ gb408):=gsz hg;have GE408:=GW408;replace HB:=hbs hb;clear hb hbox hg)|((with_reducible refine gate_dst (N:=4) rfl ?_);refine box_ev (N:=4) (cs:=#[.slice A1_0 l1_0.length c1_0,.slice A1_1 l1_1.length c1_1]) (t:=26) ?_;intro gb409 hg w25 hbox hb;have BK409:=Aside0.mk (hbox);have GW409 : Aside0 (w.heap.size ≤ gb409):=gsz hg;have GE409:=GW409;have NB408_409:=nbl BK408 hg;have NB409_408:=nbr BK408 hg;replace BK408:=bkb BK408 hb;replace HB:=hbs hb;clear hb hbox hg;have hnb26:=NB408_409.out;have hnc26:=NB409_408.out;obtain ⟨_,_,_,_,_,_⟩:=cells3 BK408.out;obtain ⟨_,_,_,_⟩:=cells2 BK409.out)|((with_reducible refine gate_callee (f:=23) rfl ?_);refine goesL_ (some 10) rfl rfl Try.func23 (by kernel_rfl) rfl #[.agg #[.int .i64 a0_0,.int .i64 a0_1,.slice A0_2 l0_2.length c0_2],.agg #[.slice A1_0 l1_0.length c1_0,.slice A1_1 l1_1.length c1_1]] rfl ga_ ?_;(with_reducible refine (hinterlandref06_Validate.calls k a0_0 a0_1 _ _ l0_2 _ _ l1_0 _ _ l1_1 t410 _ ?_ ?_ ?_ ?_ ?_ ?_ A4.out).mono ?_);exact cq HR0_2;exact HC0_2.out;exact cq HR1_0;exact HC1_0.out;exact cq HR1_1;exact HC1_1.out;rintro e w29 ⟨rfl,hb⟩;refine ⟨_,rfl,?_⟩;replace BK408:=bkb BK408 hb;replace BK409:=bkb BK409 hb;replace HB:=hbs hb))
  go_ret
  exact ⟨er_,hb_⟩

end Go.Proofs.Ytiencnnkphipoaa.P

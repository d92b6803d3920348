/- Functions of this seat as plain Lean functions, with proofs that the Go code comes to just their answers, or what stands between them and a law's statement; no conditions. (Laid by a program of this session, out of the kit's print.) -/
import Derived.Test.YtiencnnkphipoaaPx0
import Derived.Test.YtiencnnkphipoaaPx8
import Derived.Test.YtiencnnkphipoaaPx10
import Derived.Test.YtiencnnkphipoaaPx11
namespace Go.Proofs.Ytiencnnkphipoaa.P
open Go.RowKit Go.Proofs.YtiencnnkphipoaaW.PrintWords Go.Proofs.YtiencnnkphipoaaW.PrintLast Go.Proofs.YtiencnnkphipoaaW.PrintMore
attribute [local go_sem] max2_int min2_int max_two min_two max_three min_three max_four min_four   -- for this text's walks alone
set_option linter.unusedVariables false
set_option linter.unusedSimpArgs false

/-! ### hinterlandref06_Mark: function 38 -/
mutual
def hinterlandref06_Mark.l0 : Nat → Int → Bool → List Int → Int → Int → List Int → List Int → Option (List Int × List Int × Int)
 | 0,_,_,_,_,_,_,_ => none
 | k + 1,x2,x10,x37,x38,x39,x423000,x423001 => if x39 < x38 then (if 0 ≤ x39 then (if x39 < (x37.length : Int) then (if x10 = true then (hinterlandref06_Mark.j1 k x2 x10 (rd x37 x39) x37 x38 x39 (decide ((rd x37 x39) > x2)) x423000 x423001) else (hinterlandref06_Mark.j1 k x2 x10 (rd x37 x39) x37 x38 x39 false x423000 x423001)) else (none)) else (none)) else (if x10 = true then (if x423001.length < 17592186044416 then (some (x423000,(x423001 ++ [x2]),0)) else (none)) else (some (x423000,x423001,0)))
def hinterlandref06_Mark.j1 : Nat → Int → Bool → Int → List Int → Int → Int → Bool → List Int → List Int → Option (List Int × List Int × Int)
 | 0,_,_,_,_,_,_,_,_,_ => none
 | k + 1,x2,x10,x12,x37,x38,x39,x48,x423000,x423001 => if x48 = true then (if x423001.length < 17592186044416 then ((some (x423001 ++ [x2] : List Int)).bind fun y428 => (if x12 = x2 then (hinterlandref06_Mark.l0 k x2 false x37 x38 (wrap64 (x39 + 1)) x423000 y428) else (if y428.length < 17592186044416 then (hinterlandref06_Mark.l0 k x2 false x37 x38 (wrap64 (x39 + 1)) x423000 (y428 ++ [x12])) else (none)))) else (none)) else (if x12 = x2 then (hinterlandref06_Mark.l0 k x2 x10 x37 x38 (wrap64 (x39 + 1)) x423000 x423001) else (if x423001.length < 17592186044416 then (hinterlandref06_Mark.l0 k x2 x10 x37 x38 (wrap64 (x39 + 1)) x423000 (x423001 ++ [x12])) else (none)))
end
def hinterlandref06_Mark.f (k : Nat) (a0_0 : Int) (a0_1 : Int) (l0_2 : List Int) (l1_0 : List Int) (l1_1 : List Int) (a2 : Int) : Option (List Int × List Int × Int) := (hinterlandref06_place.f k a0_0 a0_1 l0_2 l1_0 l1_1 a2).bind fun t417 => (if t417 = 0 then ((hinterlandref06_Wet.f k a0_0 a0_1 l0_2 l1_0 a2).bind fun t418 => (if t418 = true then (if ([] : List Int).length + l1_0.length < 17592186044416 then ((hinterlandref06_marked.f k l1_0 l1_1 a2).bind fun t423 => (hinterlandref06_Mark.l0 k a2 (!t423) l1_1 (l1_1.length : Int) 0 (([] : List Int) ++ l1_0) ([] : List Int))) else (none)) else (some (([] : List Int), ([] : List Int), 9)))) else (some (([] : List Int), ([] : List Int), t417)))
theorem hinterlandref06_Mark.mono_l : ∀ k, (∀ y0 y1 y2 y3 y4 y5 y6, LeO (hinterlandref06_Mark.l0 k y0 y1 y2 y3 y4 y5 y6) (hinterlandref06_Mark.l0 (k + 1) y0 y1 y2 y3 y4 y5 y6)) ∧ (∀ y0 y1 y2 y3 y4 y5 y6 y7 y8, LeO (hinterlandref06_Mark.j1 k y0 y1 y2 y3 y4 y5 y6 y7 y8) (hinterlandref06_Mark.j1 (k + 1) y0 y1 y2 y3 y4 y5 y6 y7 y8))
 | 0 => ⟨fun _ _ _ _ _ _ _ r h => by simp [hinterlandref06_Mark.l0] at h,fun _ _ _ _ _ _ _ _ _ r h => by simp [hinterlandref06_Mark.j1] at h⟩
 | k + 1 => by
  obtain ⟨ih0,ih1⟩:=hinterlandref06_Mark.mono_l k
  refine ⟨?_,?_⟩
  ·intro y0 y1 y2 y3 y4 y5 y6
   unfold hinterlandref06_Mark.l0
   repeat' first
   | (with_reducible exact ih0 _ _ _ _ _ _ _)
   | (with_reducible exact ih1 _ _ _ _ _ _ _ _ _)
   | (with_reducible exact hinterlandref06_Wet.mono _ _ _ _ _ _)
   | (with_reducible exact hinterlandref06_marked.mono _ _ _ _)
   | (with_reducible exact hinterlandref06_place.mono _ _ _ _ _ _ _)
   | (with_reducible exact LeO.refl _)
   | (with_reducible exact LeO.none _)
   | (with_reducible refine LeO.ite ?_ ?_)
   | (with_reducible refine LeO.bind ?_ (fun _ => ?_))
   | exact ih0 _ _ _ _ _ _ _
   | exact ih1 _ _ _ _ _ _ _ _ _
   | exact hinterlandref06_Wet.mono _ _ _ _ _ _
   | exact hinterlandref06_marked.mono _ _ _ _
   | exact hinterlandref06_place.mono _ _ _ _ _ _ _
   | exact LeO.none _
   | refine LeO.ite ?_ ?_
   | refine LeO.bind ?_ (fun _ => ?_)
  ·intro y0 y1 y2 y3 y4 y5 y6 y7 y8
   unfold hinterlandref06_Mark.j1
   repeat' first
   | (with_reducible exact ih0 _ _ _ _ _ _ _)
   | (with_reducible exact ih1 _ _ _ _ _ _ _ _ _)
   | (with_reducible exact hinterlandref06_Wet.mono _ _ _ _ _ _)
   | (with_reducible exact hinterlandref06_marked.mono _ _ _ _)
   | (with_reducible exact hinterlandref06_place.mono _ _ _ _ _ _ _)
   | (with_reducible exact LeO.refl _)
   | (with_reducible exact LeO.none _)
   | (with_reducible refine LeO.ite ?_ ?_)
   | (with_reducible refine LeO.bind ?_ (fun _ => ?_))
   | exact ih0 _ _ _ _ _ _ _
   | exact ih1 _ _ _ _ _ _ _ _ _
   | exact hinterlandref06_Wet.mono _ _ _ _ _ _
   | exact hinterlandref06_marked.mono _ _ _ _
   | exact hinterlandref06_place.mono _ _ _ _ _ _ _
   | exact LeO.none _
   | refine LeO.ite ?_ ?_
   | refine LeO.bind ?_ (fun _ => ?_)
theorem hinterlandref06_Mark.mono : ∀ a0 a1 a2 a3 a4 a5 k, LeO (hinterlandref06_Mark.f k a0 a1 a2 a3 a4 a5) (hinterlandref06_Mark.f (k + 1) a0 a1 a2 a3 a4 a5) := by
 intro a0 a1 a2 a3 a4 a5 k
 obtain ⟨ih0,ih1⟩:=hinterlandref06_Mark.mono_l k
 unfold hinterlandref06_Mark.f
 repeat' first
   | (with_reducible exact ih0 _ _ _ _ _ _ _)
   | (with_reducible exact ih1 _ _ _ _ _ _ _ _ _)
   | (with_reducible exact hinterlandref06_Wet.mono _ _ _ _ _ _)
   | (with_reducible exact hinterlandref06_marked.mono _ _ _ _)
   | (with_reducible exact hinterlandref06_place.mono _ _ _ _ _ _ _)
   | (with_reducible exact LeO.refl _)
   | (with_reducible exact LeO.none _)
   | (with_reducible refine LeO.ite ?_ ?_)
   | (with_reducible refine LeO.bind ?_ (fun _ => ?_))
   | exact ih0 _ _ _ _ _ _ _
   | exact ih1 _ _ _ _ _ _ _ _ _
   | exact hinterlandref06_Wet.mono _ _ _ _ _ _
   | exact hinterlandref06_marked.mono _ _ _ _
   | exact hinterlandref06_place.mono _ _ _ _ _ _ _
   | exact LeO.none _
   | refine LeO.ite ?_ ?_
   | refine LeO.bind ?_ (fun _ => ?_)
set_option maxHeartbeats 8000000 in
set_option maxRecDepth 100000 in
theorem hinterlandref06_Mark.calls (k : Nat) (a0_0 : Int) (a0_1 : Int) (A0_2 : Option Addr) (c0_2 : Nat) (l0_2 : List Int) (A1_0 : Option Addr) (c1_0 : Nat) (l1_0 : List Int) (A1_1 : Option Addr) (c1_1 : Nat) (l1_1 : List Int) (a2 : Int) (r1 : List Int) (r2 : List Int) (r3 : Int) (w : World) (hr0_2 : Kd.C (Kd.int .i64) w A0_2 l0_2.length l0_2) (hc0_2 : l0_2.length ≤ c0_2) (hr1_0 : Kd.C (Kd.int .i64) w A1_0 l1_0.length l1_0) (hc1_0 : l1_0.length ≤ c1_0) (hr1_1 : Kd.C (Kd.int .i64) w A1_1 l1_1.length l1_1) (hc1_1 : l1_1.length ≤ c1_1) (h : hinterlandref06_Mark.f k a0_0 a0_1 l0_2 l1_0 l1_1 a2 = some (r1, r2, r3)) :
  Calls Try.prog 38 #[.agg #[.int .i64 a0_0,.int .i64 a0_1,.slice A0_2 l0_2.length c0_2],.agg #[.slice A1_0 l1_0.length c1_0,.slice A1_1 l1_1.length c1_1],.int .i64 a2] w fun e w' => ∃ v0_ v1_ : Value,e = .returned (.tuple #[.agg #[v0_,v1_],.int .i64 r3]) ∧ Kd.R (Kd.int .i64) 3 w' w.heap.size (fun k_ => some k_ ≠ (v1_ : Value).ownBlock) v0_ r1 ∧ Kd.R (Kd.int .i64) 3 w' w.heap.size (fun k_ => some k_ ≠ (v0_ : Value).ownBlock) v1_ r2 ∧ Below w.heap.size w w':=by
 have hu24:=Try.underlying24
 have hu26:=Try.underlying26
 have HR0_2:=Aside0.mk hr0_2
 have HC0_2:=Aside0.mk hc0_2
 clear hr0_2 hc0_2
 have HR1_0:=Aside0.mk hr1_0
 have HC1_0:=Aside0.mk hc1_0
 clear hr1_0 hc1_0
 have HR1_1:=Aside0.mk hr1_1
 have HC1_1:=Aside0.mk hc1_1
 clear hr1_1 hc1_1
 have HB:=Aside0.mk (Below.refl w.heap.size w)
 have H : ((hinterlandref06_place.f k a0_0 a0_1 l0_2 l1_0 l1_1 a2).bind fun t417 => (if t417 = 0 then ((hinterlandref06_Wet.f k a0_0 a0_1 l0_2 l1_0 a2).bind fun t418 => (if t418 = true then (if ([] : List Int).length + l1_0.length < 17592186044416 then ((hinterlandref06_marked.f k l1_0 l1_1 a2).bind fun t423 => (hinterlandref06_Mark.l0 k a2 (!t423) l1_1 (l1_1.length : Int) 0 (([] : List Int) ++ l1_0) ([] : List Int))) else (none)) else (some (([] : List Int),([] : List Int),9)))) else (some (([] : List Int),([] : List Int),t417)))) = some (r1,r2,r3):=h
 clear h
 replace H:=Option.bind_eq_some_iff.mp H
 obtain ⟨t417,A40,H⟩:=H
 replace H : (if t417 = 0 then ((hinterlandref06_Wet.f k a0_0 a0_1 l0_2 l1_0 a2).bind fun t418 => (if t418 = true then (if ([] : List Int).length + l1_0.length < 17592186044416 then ((hinterlandref06_marked.f k l1_0 l1_1 a2).bind fun t423 => (hinterlandref06_Mark.l0 k a2 (!t423) l1_1 (l1_1.length : Int) 0 (([] : List Int) ++ l1_0) ([] : List Int))) else (none)) else (some (([] : List Int),([] : List Int),9)))) else (some (([] : List Int),([] : List Int),t417))) = some (r1,r2,r3):=H
 have A4:=Aside0.mk A40
 clear A40
 by_cases c5 : t417 = 0
 rotate_left
 ·rw [if_neg c5] at H
  have c5b0:=bqf c5
  have c5b1:=bnt c5
  simp only [Option.some.injEq,Prod.mk.injEq] at H
  obtain ⟨rfl,rfl,rfl⟩:=H
  go_enter Try.func38,Try.ntmps38
  go_wp2_with (first|((with_reducible refine gate_dst (N:=3) rfl ?_);refine box_ev (N:=3) (cs:=#[.int .i64 a0_0,.int .i64 a0_1,.slice A0_2 l0_2.length c0_2]) (t:=24) ?_;intro gb414 hg w101 hbox hb;have BK414:=Aside0.mk (hbox);have GW414 : Aside0 (w.heap.size ≤ gb414):=gsz hg;have GE414:=GW414;replace HB:=hbs hb;clear hb hbox hg)|((with_reducible refine gate_dst (N:=4) rfl ?_);refine box_ev (N:=4) (cs:=#[.slice A1_0 l1_0.length c1_0,.slice A1_1 l1_1.length c1_1]) (t:=26) ?_;intro gb415 hg w102 hbox hb;have BK415:=Aside0.mk (hbox);have GW415 : Aside0 (w.heap.size ≤ gb415):=gsz hg;have GE415:=GW415;have NB414_415:=nbl BK414 hg;have NB415_414:=nbr BK414 hg;replace BK414:=bkb BK414 hb;replace HB:=hbs hb;clear hb hbox hg)|((with_reducible refine gate_dst (N:=6) rfl ?_);refine box_ev (N:=6) (cs:=#[.slice none 0 0,.slice none 0 0]) (t:=26) ?_;intro gb416 hg w103 hbox hb;have BK416:=Aside0.mk (hbox);have GW416 : Aside0 (w.heap.size ≤ gb416):=gsz hg;have GE416:=GW416;have NB414_416:=nbl BK414 hg;have NB416_414:=nbr BK414 hg;have NB415_416:=nbl BK415 hg;have NB416_415:=nbr BK415 hg;replace BK414:=bkb BK414 hb;replace BK415:=bkb BK415 hb;replace HB:=hbs hb;clear hb hbox hg;have hnb104:=NB414_415.out;have hnc104:=NB415_414.out;have hnb105:=NB414_416.out;have hnc105:=NB416_414.out;obtain ⟨_,_,_,_,_,_⟩:=cells3 BK414.out;have hnb107:=NB415_416.out;have hnc107:=NB416_415.out;obtain ⟨_,_,_,_⟩:=cells2 BK415.out)|((with_reducible refine gate_callee (f:=42) rfl ?_);refine goesL_ (some 16) rfl rfl Try.func42 (by kernel_rfl) rfl #[.agg #[.int .i64 a0_0,.int .i64 a0_1,.slice A0_2 l0_2.length c0_2],.agg #[.slice A1_0 l1_0.length c1_0,.slice A1_1 l1_1.length c1_1],.int .i64 a2] rfl ga_ ?_;(with_reducible refine (hinterlandref06_place.calls k a0_0 a0_1 _ _ l0_2 _ _ l1_0 _ _ l1_1 a2 t417 _ ?_ ?_ ?_ ?_ ?_ ?_ A4.out).mono ?_);exact cq HR0_2;exact HC0_2.out;exact cq HR1_0;exact HC1_0.out;exact cq HR1_1;exact HC1_1.out;rintro e w109 ⟨rfl,hb⟩;refine ⟨_,rfl,?_⟩;replace BK414:=bkb BK414 hb;replace BK415:=bkb BK415 hb;replace BK416:=bkb BK416 hb;replace HB:=hbs hb;obtain ⟨_,_,_,_⟩:=cells2 BK416.out))
  refine bodyPost_ret (results_ct rfl _ _ gb416 26 #[.slice none 0 0,.slice none 0 0] (0,0) _ rfl (by (with_reducible repeat (first|refine blk_drewN ?_ _|refine blk_drew ?_|refine blk_alloc ?_ _));exact blk_puts2 (blk_up BK416.out)) Try.underlying26 rfl (by kernel_rfl)) rfl ?_
  exact ⟨_,_,er_,nl_,nl_,hb_⟩
 rw [if_pos c5] at H
 have c5b0:=bqt c5
 have c5b1:=bnf c5
 clear c5
 replace H:=Option.bind_eq_some_iff.mp H
 obtain ⟨t418,A60,H⟩:=H
 replace H : (if t418 = true then (if ([] : List Int).length + l1_0.length < 17592186044416 then ((hinterlandref06_marked.f k l1_0 l1_1 a2).bind fun t423 => (hinterlandref06_Mark.l0 k a2 (!t423) l1_1 (l1_1.length : Int) 0 (([] : List Int) ++ l1_0) ([] : List Int))) else (none)) else (some (([] : List Int),([] : List Int),9))) = some (r1,r2,r3):=H
 have A6:=Aside0.mk A60
 clear A60
 by_cases c7 : t418 = true
 ·subst c7
  have H1 : (if ([] : List Int).length + l1_0.length < 17592186044416 then ((hinterlandref06_marked.f k l1_0 l1_1 a2).bind fun t423 => (hinterlandref06_Mark.l0 k a2 (!t423) l1_1 (l1_1.length : Int) 0 (([] : List Int) ++ l1_0) ([] : List Int))) else (none)) = some (r1,r2,r3):=by rw [if_pos rfl] at H;exact H
  clear H
  have H:=H1
  clear H1
  replace H:=ifp_ H;obtain ⟨c8,H⟩:=H
  have LMc8:=Aside0.mk c8
  clear c8
  obtain ⟨y419,hy419⟩ : ∃ y_ : List Int,y_ = (([] : List Int) ++ l1_0):=⟨_,rfl⟩
  replace H : ((hinterlandref06_marked.f k l1_0 l1_1 a2).bind fun t423 => (hinterlandref06_Mark.l0 k a2 (!t423) l1_1 (l1_1.length : Int) 0 y419 ([] : List Int))) = some (r1,r2,r3):=by first|(rw [hy419];with_reducible exact H)|(have H2_:=(Option.bind_some _ _).symm.trans H;rw [hy419];with_reducible exact H2_)|(have H2_:=(Option.bind_some _ _).symm.trans H;with_reducible exact H2_)|with_reducible exact H|(rw [hy419];exact H)|exact H
  have Ny419:=Aside0.mk hy419
  clear hy419
  replace H:=Option.bind_eq_some_iff.mp H
  obtain ⟨t423,A90,H⟩:=H
  replace H : (hinterlandref06_Mark.l0 k a2 (!t423) l1_1 (l1_1.length : Int) 0 y419 ([] : List Int)) = some (r1,r2,r3):=H
  have A9:=Aside0.mk A90
  clear A90
  have H':=Aside0.mk H
  clear H
  go_enter Try.func38,Try.ntmps38
  go_wp2_with (first|((with_reducible refine gate_dst (N:=3) rfl ?_);refine box_ev (N:=3) (cs:=#[.int .i64 a0_0,.int .i64 a0_1,.slice A0_2 l0_2.length c0_2]) (t:=24) ?_;intro gb414 hg w10 hbox hb;have BK414:=Aside0.mk (hbox);have GW414 : Aside0 (w.heap.size ≤ gb414):=gsz hg;have GE414:=GW414;replace HB:=hbs hb;clear hb hbox hg)|((with_reducible refine gate_dst (N:=4) rfl ?_);refine box_ev (N:=4) (cs:=#[.slice A1_0 l1_0.length c1_0,.slice A1_1 l1_1.length c1_1]) (t:=26) ?_;intro gb415 hg w11 hbox hb;have BK415:=Aside0.mk (hbox);have GW415 : Aside0 (w.heap.size ≤ gb415):=gsz hg;have GE415:=GW415;have NB414_415:=nbl BK414 hg;have NB415_414:=nbr BK414 hg;replace BK414:=bkb BK414 hb;replace HB:=hbs hb;clear hb hbox hg)|((with_reducible refine gate_dst (N:=6) rfl ?_);refine box_ev (N:=6) (cs:=#[.slice none 0 0,.slice none 0 0]) (t:=26) ?_;intro gb416 hg w12 hbox hb;have BK416:=Aside0.mk (hbox);have GW416 : Aside0 (w.heap.size ≤ gb416):=gsz hg;have GE416:=GW416;have NB414_416:=nbl BK414 hg;have NB416_414:=nbr BK414 hg;have NB415_416:=nbl BK415 hg;have NB416_415:=nbr BK415 hg;replace BK414:=bkb BK414 hb;replace BK415:=bkb BK415 hb;replace HB:=hbs hb;clear hb hbox hg;have hnb13:=NB414_415.out;have hnc13:=NB415_414.out;have hnb14:=NB414_416.out;have hnc14:=NB416_414.out;obtain ⟨_,_,_,_,_,_⟩:=cells3 BK414.out;have hnb16:=NB415_416.out;have hnc16:=NB416_415.out;obtain ⟨_,_,_,_⟩:=cells2 BK415.out)|((with_reducible refine gate_callee (f:=42) rfl ?_);refine goesL_ (some 16) rfl rfl Try.func42 (by kernel_rfl) rfl #[.agg #[.int .i64 a0_0,.int .i64 a0_1,.slice A0_2 l0_2.length c0_2],.agg #[.slice A1_0 l1_0.length c1_0,.slice A1_1 l1_1.length c1_1],.int .i64 a2] rfl ga_ ?_;(with_reducible refine (hinterlandref06_place.calls k a0_0 a0_1 _ _ l0_2 _ _ l1_0 _ _ l1_1 a2 t417 _ ?_ ?_ ?_ ?_ ?_ ?_ A4.out).mono ?_);exact cq HR0_2;exact HC0_2.out;exact cq HR1_0;exact HC1_0.out;exact cq HR1_1;exact HC1_1.out;rintro e w18 ⟨rfl,hb⟩;refine ⟨_,rfl,?_⟩;replace BK414:=bkb BK414 hb;replace BK415:=bkb BK415 hb;replace BK416:=bkb BK416 hb;replace HB:=hbs hb;obtain ⟨_,_,_,_,_,_⟩:=cells3 BK414.out;obtain ⟨_,_,_,_⟩:=cells2 BK415.out)|((with_reducible refine gate_callee (f:=47) rfl ?_);refine goesL_ (some 25) rfl rfl Try.func47 (by kernel_rfl) rfl #[.agg #[.int .i64 a0_0,.int .i64 a0_1,.slice A0_2 l0_2.length c0_2],.slice A1_0 l1_0.length c1_0,.int .i64 a2] rfl ga_ ?_;(with_reducible refine (hinterlandref06_Wet.calls k a0_0 a0_1 _ _ l0_2 _ _ l1_0 a2 true _ ?_ ?_ ?_ ?_ A6.out).mono ?_);exact cq HR0_2;exact HC0_2.out;exact cq HR1_0;exact HC1_0.out;rintro e w21 ⟨rfl,hb⟩;refine ⟨_,rfl,?_⟩;replace BK414:=bkb BK414 hb;replace BK415:=bkb BK415 hb;replace BK416:=bkb BK416 hb;replace HB:=hbs hb;obtain ⟨_,_,_,_⟩:=cells2 BK415.out)|((with_reducible refine gate_builtin (b:=.append) (xs:=#[.const (.slice none 0 0),.tmp 29]) rfl ?_);at_builtin;refine Kd.R_append_rows (Kd.int .i64) (w0:=w) w.heap.size rfl (.const (.slice none 0 0)) (.tmp 29) 22 3 (.int .i64 0) 8 rfl Try.underlying22 info3 rfl (by decide) (by omega) (.slice none 0 0) ([] : List Int) l1_0 _ _ _ (fun _ => True) (fun _ => False) rfl rfl ?aO ?aR (fun _ _ h => h) (fun _ h => h.elim) ?aF ?aB ?aS ?aL ?_;(case aR => exact Kd.C_up (Kd.C_below HR1_0.out HB.out));(case aB => exact (hb_));(case aF => exact (fun _ _ => trivial));(case aO => exact ((Kd.R_nil _ _ _ _ (fun _ => True))));(case aS => exact (below_size (hb_)));(case aL => have:=LMc8.out;omega);intro v420 w23 ho hb hg hat;rw [← Ny419.out] at ho;have HO421:=Aside0.mk (ho);replace BK414:=Aside0.mk (blk_grown (blk_up BK414.out) hg (by simp [Value.ownBlock]));replace BK415:=Aside0.mk (blk_grown (blk_up BK415.out) hg (by simp [Value.ownBlock]));replace BK416:=Aside0.mk (blk_grown (blk_up BK416.out) hg (by simp [Value.ownBlock]));replace HB:=Aside0.mk (hb);clear ho hb hg hat;obtain ⟨Ao24,co24,eo24⟩:=Kd.R_slice HO421.out;subst eo24)|((with_reducible refine gate_dst (N:=9) rfl ?_);refine box_ev (N:=9) (cs:=#[.slice none 0 0,.slice none 0 0]) (t:=26) ?_;intro gb422 hg w25 hbox hb;have BK422:=Aside0.mk (hbox);have GW422 : Aside0 (w.heap.size ≤ gb422):=gsz hg;have GE422:=GW422;have NB414_422:=nbl BK414 hg;have NB422_414:=nbr BK414 hg;have NB415_422:=nbl BK415 hg;have NB422_415:=nbr BK415 hg;have NB416_422:=nbl BK416 hg;have NB422_416:=nbr BK416 hg;replace HO421:=rbw HO421 hb;replace BK414:=bkb BK414 hb;replace BK415:=bkb BK415 hb;replace BK416:=bkb BK416 hb;replace HB:=hbs hb;clear hb hbox hg;have hnb26:=NB422_414.out;have hnc26:=NB414_422.out;have hnb27:=NB422_415.out;have hnc27:=NB415_422.out;have hnb28:=NB422_416.out;have hnc28:=NB416_422.out;obtain ⟨_,_,_,_⟩:=cells2 BK422.out;obtain ⟨_,_,_,_⟩:=cells2 BK415.out)|((with_reducible refine gate_callee (f:=57) rfl ?_);refine goesL_ (some 34) rfl rfl Try.func57 (by kernel_rfl) rfl #[.agg #[.slice A1_0 l1_0.length c1_0,.slice A1_1 l1_1.length c1_1],.int .i64 a2] rfl ga_ ?_;(with_reducible refine (hinterlandref06_marked.calls k _ _ l1_0 _ _ l1_1 a2 t423 _ ?_ ?_ ?_ ?_ A9.out).mono ?_);exact Kd.C_below HR1_0.out (hb_);exact HC1_0.out;exact Kd.C_below HR1_1.out (hb_);exact HC1_1.out;rintro e w31 ⟨rfl,hb⟩;refine ⟨_,rfl,?_⟩;replace HO421:=Aside0.mk (Kd.R_below (by (with_reducible repeat (first|apply Kd.R_alloc|apply Kd.R_drewN|apply Kd.R_drew));exact (Kd.R_mono (Kd.R_fars gb422 (Kd.R_types HO421.out BK422.out (by decide)) (fun _ hk => hk.2)) (fun _ h_ => h_.1))) hb);replace BK414:=Aside0.mk (blk_below (g:=gb414) (o:=.cells #[.int .i64 a0_0,.int .i64 a0_1,.slice A0_2 l0_2.length c0_2] 24 (0,0)) (by (with_reducible repeat (first|refine blk_drewN ?_ _|refine blk_drew ?_|refine blk_alloc ?_ _));refine blk_far ?_ NB414_422.out _;(with_reducible repeat (first|refine blk_drewN ?_ _|refine blk_drew ?_|refine blk_alloc ?_ _));refine blk_far ?_ NB414_422.out _;(with_reducible repeat (first|refine blk_drewN ?_ _|refine blk_drew ?_|refine blk_alloc ?_ _));exact BK414.out) hb);replace BK415:=Aside0.mk (blk_below (g:=gb415) (o:=.cells #[.slice A1_0 l1_0.length c1_0,.slice A1_1 l1_1.length c1_1] 26 (0,0)) (by (with_reducible repeat (first|refine blk_drewN ?_ _|refine blk_drew ?_|refine blk_alloc ?_ _));refine blk_far ?_ NB415_422.out _;(with_reducible repeat (first|refine blk_drewN ?_ _|refine blk_drew ?_|refine blk_alloc ?_ _));refine blk_far ?_ NB415_422.out _;(with_reducible repeat (first|refine blk_drewN ?_ _|refine blk_drew ?_|refine blk_alloc ?_ _));exact BK415.out) hb);replace BK416:=Aside0.mk (blk_below (g:=gb416) (o:=.cells #[.slice none 0 0,.slice none 0 0] 26 (0,0)) (by (with_reducible repeat (first|refine blk_drewN ?_ _|refine blk_drew ?_|refine blk_alloc ?_ _));refine blk_far ?_ NB416_422.out _;(with_reducible repeat (first|refine blk_drewN ?_ _|refine blk_drew ?_|refine blk_alloc ?_ _));refine blk_far ?_ NB416_422.out _;(with_reducible repeat (first|refine blk_drewN ?_ _|refine blk_drew ?_|refine blk_alloc ?_ _));exact BK416.out) hb);replace BK422:=Aside0.mk (blk_below (g:=gb422) (o:=.cells #[.slice Ao24 y419.length co24,.slice none 0 0] 26 (0,0)) (by (with_reducible repeat (first|refine blk_drewN ?_ _|refine blk_drew ?_|refine blk_alloc ?_ _));exact blk_puts2 (blk_up BK422.out)) hb);replace HB:=hbs hb;obtain ⟨_,_,_,_⟩:=cells2 BK415.out))
  go_loopg [10,39] k (fun kq v10 v39 w' => ∃ (x10_1 : Bool) (x39_1 : Int) (x423001_1 : List Int) (u423001 : Value),v10 = .bool x10_1 ∧ v39 = .int .i64 x39_1 ∧ Aside0 (hinterlandref06_Mark.l0 kq a2 x10_1 l1_1 (l1_1.length : Int) x39_1 y419 x423001_1 = some (r1,r2,r3)) ∧ Aside0 (kq ≤ k) ∧ Aside0 (Kd.R (Kd.int .i64) 3 w' w.heap.size (fun k_ => some k_ ≠ (u423001 : Value).ownBlock) (.slice Ao24 y419.length co24) y419) ∧ Aside0 (Kd.R (Kd.int .i64) 3 w' w.heap.size (fun k_ => some k_ ≠ ((.slice Ao24 y419.length co24) : Value).ownBlock) u423001 x423001_1) ∧ Aside0 (w'.heap[gb414]? = some (.cells #[.int .i64 a0_0,.int .i64 a0_1,(.slice A0_2 l0_2.length c0_2)] 24 (0,0))) ∧ Aside0 (w'.heap[gb415]? = some (.cells #[(.slice A1_0 l1_0.length c1_0),(.slice A1_1 l1_1.length c1_1)] 26 (0,0))) ∧ Aside0 (w'.heap[gb416]? = some (.cells #[(.slice none 0 0),(.slice none 0 0)] 26 (0,0))) ∧ Aside0 (w'.heap[gb422]? = some (.cells #[(.slice Ao24 y419.length co24),u423001] 26 (0,0))) ∧ Aside0 (Below w.heap.size w w'))
  case atStart => exact ⟨(!t423),(0),(([] : List Int)),(.slice none 0 0),(by first|rfl|(simp;done)|(simp [*];done)),(by first|rfl|(simp;done)|(simp [*];done)),H',⟨Nat.le_refl _⟩,⟨by (with_reducible repeat (first|apply Kd.R_alloc|apply Kd.R_drewN|apply Kd.R_drew));exact Kd.R_mono HO421.out (fun _ hk => (by simp [Value.ownBlock]))⟩,⟨nl_⟩,⟨blk_up BK414.out⟩,⟨blk_up BK415.out⟩,⟨blk_up BK416.out⟩,⟨blk_up BK422.out⟩,⟨hb_⟩⟩
  case round =>
   clear H'
   obtain ⟨x10_1,x39_1,x423001_1,u423001,rfl,rfl,HA,HK1,HO_423000,HO_423001,BK414,BK415,BK416,BK422,HB⟩:=hrel
   cases gk with
   | zero => exact absurd HA.out (by simp [hinterlandref06_Mark.l0])
   | succ k1 =>
    have H:=HA.out
    clear HA
    simp only [hinterlandref06_Mark.l0] at H
    by_cases c33 : x39_1 < (l1_1.length : Int)
    rotate_left
    ·rw [if_neg c33] at H
     have c33b0 : decide (x39_1 < (l1_1.length : Int)) = false:=decide_eq_false c33
     clear c33
     by_cases c68 : x10_1 = true
     ·subst c68
      have H1 : (if x423001_1.length < 17592186044416 then (some (y419,(x423001_1 ++ [a2]),0)) else (none)) = some (r1,r2,r3):=by rw [if_pos rfl] at H;exact H
      clear H
      have H:=H1
      clear H1
      replace H:=ifp_ H;obtain ⟨c69,H⟩:=H
      have LMc69:=Aside0.mk c69
      clear c69
      obtain ⟨y424,hy424⟩ : ∃ y_ : List Int,y_ = (x423001_1 ++ [a2]):=⟨_,rfl⟩
      replace H : (some (y419,y424,0)) = some (r1,r2,r3):=by first|(rw [hy424];with_reducible exact H)|(have H2_:=(Option.bind_some _ _).symm.trans H;rw [hy424];with_reducible exact H2_)|(have H2_:=(Option.bind_some _ _).symm.trans H;with_reducible exact H2_)|with_reducible exact H|(rw [hy424];exact H)|exact H
      have Ny424:=Aside0.mk hy424
      clear hy424
      simp only [Option.some.injEq,Prod.mk.injEq] at H
      obtain ⟨rfl,rfl,rfl⟩:=H
      have hnb70:=NB422_414.out
      have hnc70:=NB414_422.out
      have hnb71:=NB422_415.out
      have hnc71:=NB415_422.out
      have hnb72:=NB422_416.out
      have hnc72:=NB416_422.out
      obtain ⟨_,_,_,_⟩:=cells2 BK422.out
      go_wp2_with (first|((with_reducible refine gate_builtin (b:=.append) (xs:=#[.tmp 67,.tmp 69]) rfl ?_);at_builtin;refine Kd.R_append (Kd.int .i64) (w0:=w) w.heap.size rfl (.tmp 67) (.tmp 69) 22 3 (.int .i64 0) 8 rfl Try.underlying22 info3 rfl (by decide) (by omega) u423001 x423001_1 a2 [.int .i64 a2] (fun k_ => some k_ ≠ (.slice Ao24 y419.length co24 : Value).ownBlock) (fun _ => False) rfl rfl ?aP (fun _ hk => hk.elim) ?aF ?aO ?aB ?aS ?aL ?_;(case aP => exact rfl);(case aB => exact (hb_));(case aF => exact (fun k_ hk => Kd.fresh' (Kd.R_lt (Kd.R_up HO_423000.out)) k_ hk));(case aO => exact (Kd.R_up HO_423001.out));(case aS => exact (below_size (hb_)));(case aL => have:=LMc69.out;omega);intro v425 w74 ho hb hg hat;rw [← Ny424.out] at ho;have HO426:=Aside0.mk (ho);replace HO_423000:=Aside0.mk (Kd.R_after (ok:=(fun _ => True)) (by (with_reducible repeat (first|apply Kd.R_alloc|apply Kd.R_drewN|apply Kd.R_drew));exact Kd.R_mono HO_423000.out (fun _ hk => ⟨trivial,hk⟩)) hg hat);replace BK414:=Aside0.mk (blk_grown (blk_up BK414.out) hg (Kd.R_ne HO_423001.out BK414.out (by decide)));replace BK415:=Aside0.mk (blk_grown (blk_up BK415.out) hg (Kd.R_ne HO_423001.out BK415.out (by decide)));replace BK416:=Aside0.mk (blk_grown (blk_up BK416.out) hg (Kd.R_ne HO_423001.out BK416.out (by decide)));replace BK422:=Aside0.mk (blk_grown (blk_up BK422.out) hg (Kd.R_ne HO_423001.out BK422.out (by decide)));replace HB:=Aside0.mk (hb);clear HO_423001;clear ho hb hg hat;obtain ⟨Ao75,co75,eo75⟩:=Kd.R_slice HO426.out;subst eo75;obtain ⟨_,_,_,_⟩:=cells2 BK422.out;have hnb77:=NB416_414.out;have hnc77:=NB414_416.out;have hnb78:=NB416_415.out;have hnc78:=NB415_416.out;obtain ⟨_,_,_,_⟩:=cells2 BK416.out))
      refine bodyPost_ret (results_ct rfl _ _ gb416 26 #[.slice Ao24 y419.length co24,.slice Ao75 y424.length co75] (0,0) _ rfl (by (with_reducible repeat (first|refine blk_drewN ?_ _|refine blk_drew ?_|refine blk_alloc ?_ _));refine blk_put (cs:=#[.slice Ao24 y419.length co24,.slice none 0 0]) ?_ 1 _ rfl;(with_reducible repeat (first|refine blk_drewN ?_ _|refine blk_drew ?_|refine blk_alloc ?_ _));refine blk_put (cs:=#[.slice none 0 0,.slice none 0 0]) ?_ 0 _ rfl;(with_reducible repeat (first|refine blk_drewN ?_ _|refine blk_drew ?_|refine blk_alloc ?_ _));refine blk_far ?_ NB416_422.out _;(with_reducible repeat (first|refine blk_drewN ?_ _|refine blk_drew ?_|refine blk_alloc ?_ _));exact BK416.out) Try.underlying26 rfl (by kernel_rfl)) rfl ?_
      exact ⟨_,_,er_,by (with_reducible repeat (first|apply Kd.R_alloc|apply Kd.R_drewN|apply Kd.R_drew));exact Kd.R_mono (Kd.R_fars gb416 (Kd.R_far (p:=⟨gb422,1,none⟩) (Kd.R_types (Kd.R_types HO_423000.out BK422.out (by decide)) BK416.out (by decide)) (fun _ hk => hk.1.2) (.slice Ao75 y424.length co75)) (fun _ hk => hk.2)) (fun _ hk => hk.1.1.2),by (with_reducible repeat (first|apply Kd.R_alloc|apply Kd.R_drewN|apply Kd.R_drew));exact Kd.R_mono (Kd.R_fars gb416 (Kd.R_far (p:=⟨gb422,1,none⟩) (Kd.R_types (Kd.R_types HO426.out BK422.out (by decide)) BK416.out (by decide)) (fun _ hk => hk.1.2) (.slice Ao75 y424.length co75)) (fun _ hk => hk.2)) (fun _ hk => hk.1.1),hb_⟩
     ·replace c68:=Bool.eq_false_iff.mpr c68
      subst c68
      have H1 : (some (y419,x423001_1,0)) = some (r1,r2,r3):=by rw [if_neg (show ¬ (false = true) by decide)] at H;exact H
      clear H
      have H:=H1
      clear H1
      simp only [Option.some.injEq,Prod.mk.injEq] at H
      obtain ⟨rfl,rfl,rfl⟩:=H
      have hnb80:=NB422_414.out
      have hnc80:=NB414_422.out
      have hnb81:=NB422_415.out
      have hnc81:=NB415_422.out
      have hnb82:=NB422_416.out
      have hnc82:=NB416_422.out
      obtain ⟨_,_,_,_⟩:=cells2 BK422.out
      have hnb84:=NB416_414.out
      have hnc84:=NB414_416.out
      have hnb85:=NB416_415.out
      have hnc85:=NB415_416.out
      obtain ⟨_,_,_,_⟩:=cells2 BK416.out
      obtain ⟨Ao87,co87,eo87⟩:=Kd.R_slice HO_423001.out
      subst eo87
      go_wp2
      refine bodyPost_ret (results_ct rfl _ _ gb416 26 #[.slice Ao24 y419.length co24,.slice Ao87 x423001_1.length co87] (0,0) _ rfl (by (with_reducible repeat (first|refine blk_drewN ?_ _|refine blk_drew ?_|refine blk_alloc ?_ _));exact blk_puts2 (blk_up BK416.out)) Try.underlying26 rfl (by kernel_rfl)) rfl ?_
      exact ⟨_,_,er_,by (with_reducible repeat (first|apply Kd.R_alloc|apply Kd.R_drewN|apply Kd.R_drew));exact Kd.R_mono (Kd.R_fars gb416 (Kd.R_types HO_423000.out BK416.out (by decide)) (fun _ hk => hk.2)) (fun _ hk => hk.1),by (with_reducible repeat (first|apply Kd.R_alloc|apply Kd.R_drewN|apply Kd.R_drew));exact Kd.R_mono (Kd.R_fars gb416 (Kd.R_types HO_423001.out BK416.out (by decide)) (fun _ hk => hk.2)) (fun _ hk => hk.1),hb_⟩
    rw [if_pos c33] at H
    have c33b0 : decide (x39_1 < (l1_1.length : Int)) = true:=decide_eq_true c33
    clear c33
    replace H:=ifp_ H;obtain ⟨c34,H⟩:=H
    have c34b0 : decide (0 ≤ x39_1) = true:=decide_eq_true c34
    clear c34
    replace H:=ifp_ H;obtain ⟨c35,H⟩:=H
    have c35b0 : decide (x39_1 < (l1_1.length : Int)) = true:=decide_eq_true c35
    clear c35
    have HC36:=Aside0.mk H
    clear H
    have p427 : 0 ≤ (x39_1 : Int):=of_decide_eq_true (by first|(with_reducible assumption)|assumption)
    have q427 : x39_1 < (l1_1.length : Int):=of_decide_eq_true (by first|(with_reducible assumption)|assumption)
    obtain ⟨ad427,e427,hx427_0⟩:=Kd.at_int HR1_1.out x39_1 p427 q427
    cases e427
    replace hx427_0:=(HB.out.cell (World.block_lt_of_cell? w _ hx427_0)).trans hx427_0
    replace p427:=eq_true p427
    replace q427:=eq_true q427
    go_upto_region 11 with (fail)
    go_cut [48] (fun v48 wc => ∃ (kq : Nat) (x48_35 : Bool),v48 = .bool x48_35 ∧ Aside0 (hinterlandref06_Mark.j1 kq a2 x10_1 (rd l1_1 x39_1) l1_1 (l1_1.length : Int) x39_1 x48_35 y419 x423001_1 = some (r1,r2,r3)) ∧ Aside0 (kq ≤ k1) ∧ Aside0 (Kd.R (Kd.int .i64) 3 wc w.heap.size (fun k_ => some k_ ≠ (u423001 : Value).ownBlock) (.slice Ao24 y419.length co24) y419) ∧ Aside0 (Kd.R (Kd.int .i64) 3 wc w.heap.size (fun k_ => some k_ ≠ ((.slice Ao24 y419.length co24) : Value).ownBlock) u423001 x423001_1) ∧ Aside0 (wc.heap[gb414]? = some (.cells #[.int .i64 a0_0,.int .i64 a0_1,(.slice A0_2 l0_2.length c0_2)] 24 (0,0))) ∧ Aside0 (wc.heap[gb415]? = some (.cells #[(.slice A1_0 l1_0.length c1_0),(.slice (some ad427) l1_1.length c1_1)] 26 (0,0))) ∧ Aside0 (wc.heap[gb416]? = some (.cells #[(.slice none 0 0),(.slice none 0 0)] 26 (0,0))) ∧ Aside0 (wc.heap[gb422]? = some (.cells #[(.slice Ao24 y419.length co24),u423001] 26 (0,0))) ∧ Aside0 (Below w.heap.size w wc))
    case first =>
     have H:=HC36.out
     clear HC36
     by_cases c37 : x10_1 = true
     ·subst c37
      have H1 : (hinterlandref06_Mark.j1 k1 a2 true (rd l1_1 x39_1) l1_1 (l1_1.length : Int) x39_1 (decide ((rd l1_1 x39_1) > a2)) y419 x423001_1) = some (r1,r2,r3):=by rw [if_pos rfl] at H;exact H
      clear H
      have H:=H1
      clear H1
      have H':=Aside0.mk H
      clear H
      go_wp2
      go_meet
      case rel => exact ⟨_,(decide ((rd l1_1 x39_1) > a2)),(by first|rfl|(simp;done)|(simp [*];done)),H',⟨by have:=HK1.out;first|omega|exact Nat.le_refl _⟩,⟨Kd.R_up HO_423000.out⟩,⟨Kd.R_up HO_423001.out⟩,⟨blk_up BK414.out⟩,⟨blk_up BK415.out⟩,⟨blk_up BK416.out⟩,⟨blk_up BK422.out⟩,⟨hb_⟩⟩
     ·replace c37:=Bool.eq_false_iff.mpr c37
      subst c37
      have H1 : (hinterlandref06_Mark.j1 k1 a2 false (rd l1_1 x39_1) l1_1 (l1_1.length : Int) x39_1 false y419 x423001_1) = some (r1,r2,r3):=by rw [if_neg (show ¬ (false = true) by decide)] at H;exact H
      clear H
      have H:=H1
      clear H1
      have H':=Aside0.mk H
      clear H
      go_wp2
      go_meet
      case rel => exact ⟨_,(false),(by first|rfl|(simp;done)|(simp [*];done)),H',⟨by have:=HK1.out;first|omega|exact Nat.le_refl _⟩,⟨Kd.R_up HO_423000.out⟩,⟨Kd.R_up HO_423001.out⟩,⟨blk_up BK414.out⟩,⟨blk_up BK415.out⟩,⟨blk_up BK416.out⟩,⟨blk_up BK422.out⟩,⟨hb_⟩⟩
    case rest =>
     clear HC36
     obtain ⟨kq,x48_35,rfl,HA,HJ35,HO_423000,HO_423001,BK414,BK415,BK416,BK422,HB⟩:=hcut
     cases kq with
     | zero => exact absurd HA.out (by simp [hinterlandref06_Mark.j1])
     | succ kj35 =>
      have H:=HA.out
      clear HA
      simp only [hinterlandref06_Mark.j1] at H
      by_cases c38 : x48_35 = true
      ·subst c38
       have H1 : (if x423001_1.length < 17592186044416 then ((some (x423001_1 ++ [a2] : List Int)).bind fun y428 => (if (rd l1_1 x39_1) = a2 then (hinterlandref06_Mark.l0 kj35 a2 false l1_1 (l1_1.length : Int) (wrap64 (x39_1 + 1)) y419 y428) else (if y428.length < 17592186044416 then (hinterlandref06_Mark.l0 kj35 a2 false l1_1 (l1_1.length : Int) (wrap64 (x39_1 + 1)) y419 (y428 ++ [(rd l1_1 x39_1)])) else (none)))) else (none)) = some (r1,r2,r3):=by rw [if_pos rfl] at H;exact H
       clear H
       have H:=H1
       clear H1
       replace H:=ifp_ H;obtain ⟨c39,H⟩:=H
       have LMc39:=Aside0.mk c39
       clear c39
       obtain ⟨y428,hy428⟩ : ∃ y_ : List Int,y_ = (x423001_1 ++ [a2]):=⟨_,rfl⟩
       replace H : (if (rd l1_1 x39_1) = a2 then (hinterlandref06_Mark.l0 kj35 a2 false l1_1 (l1_1.length : Int) (wrap64 (x39_1 + 1)) y419 y428) else (if y428.length < 17592186044416 then (hinterlandref06_Mark.l0 kj35 a2 false l1_1 (l1_1.length : Int) (wrap64 (x39_1 + 1)) y419 (y428 ++ [(rd l1_1 x39_1)])) else (none))) = some (r1,r2,r3):=by first|(rw [hy428];with_reducible exact H)|(have H2_:=(Option.bind_some _ _).symm.trans H;rw [hy428];with_reducible exact H2_)|(have H2_:=(Option.bind_some _ _).symm.trans H;with_reducible exact H2_)|with_reducible exact H|(rw [hy428];exact H)|exact H
       have Ny428:=Aside0.mk hy428
       clear hy428
       by_cases c40 : (rd l1_1 x39_1) = a2
       ·rw [if_pos c40] at H
        have c40b0:=bqt c40
        have c40b1:=bnf c40
        clear c40
        have H':=Aside0.mk H
        clear H
        have hnb41:=NB422_414.out
        have hnc41:=NB414_422.out
        have hnb42:=NB422_415.out
        have hnc42:=NB415_422.out
        have hnb43:=NB422_416.out
        have hnc43:=NB416_422.out
        obtain ⟨_,_,_,_⟩:=cells2 BK422.out
        go_wp2_with (first|((with_reducible refine gate_builtin (b:=.append) (xs:=#[.tmp 50,.tmp 52]) rfl ?_);at_builtin;refine Kd.R_append (Kd.int .i64) (w0:=w) w.heap.size rfl (.tmp 50) (.tmp 52) 22 3 (.int .i64 0) 8 rfl Try.underlying22 info3 rfl (by decide) (by omega) u423001 x423001_1 a2 [.int .i64 a2] (fun k_ => some k_ ≠ (.slice Ao24 y419.length co24 : Value).ownBlock) (fun _ => False) rfl rfl ?aP (fun _ hk => hk.elim) ?aF ?aO ?aB ?aS ?aL ?_;(case aP => exact rfl);(case aB => exact (hb_));(case aF => exact (fun k_ hk => Kd.fresh' (Kd.R_lt (Kd.R_up HO_423000.out)) k_ hk));(case aO => exact (Kd.R_up HO_423001.out));(case aS => exact (below_size (hb_)));(case aL => have:=LMc39.out;omega);intro v429 w45 ho hb hg hat;rw [← Ny428.out] at ho;have HO430:=Aside0.mk (ho);replace HO_423000:=Aside0.mk (Kd.R_after (ok:=(fun _ => True)) (by (with_reducible repeat (first|apply Kd.R_alloc|apply Kd.R_drewN|apply Kd.R_drew));exact Kd.R_mono HO_423000.out (fun _ hk => ⟨trivial,hk⟩)) hg hat);replace BK414:=Aside0.mk (blk_grown (blk_up BK414.out) hg (Kd.R_ne HO_423001.out BK414.out (by decide)));replace BK415:=Aside0.mk (blk_grown (blk_up BK415.out) hg (Kd.R_ne HO_423001.out BK415.out (by decide)));replace BK416:=Aside0.mk (blk_grown (blk_up BK416.out) hg (Kd.R_ne HO_423001.out BK416.out (by decide)));replace BK422:=Aside0.mk (blk_grown (blk_up BK422.out) hg (Kd.R_ne HO_423001.out BK422.out (by decide)));replace HB:=Aside0.mk (hb);clear HO_423001;clear ho hb hg hat;obtain ⟨Ao46,co46,eo46⟩:=Kd.R_slice HO430.out;subst eo46;obtain ⟨_,_,_,_⟩:=cells2 BK422.out))
        go_roundg kj35
        case measure => have:=HK1.out;have:=HJ35.out;omega
        case rel => exact ⟨(false),(wrap64 (x39_1 + 1)),(y428),(.slice Ao46 y428.length co46),(by first|rfl|(simp;done)|(simp [*];done)),(by first|rfl|(simp;done)|(simp [*];done)),H',⟨by have:=HK1.out;have:=HJ35.out;omega⟩,⟨by (with_reducible repeat (first|apply Kd.R_alloc|apply Kd.R_drewN|apply Kd.R_drew));exact Kd.R_mono (Kd.R_far (p:=⟨gb422,1,none⟩) (Kd.R_types HO_423000.out BK422.out (by decide)) (fun _ hk => hk.2) (.slice Ao46 y428.length co46)) (fun _ hk => hk.1.2)⟩,⟨by (with_reducible repeat (first|apply Kd.R_alloc|apply Kd.R_drewN|apply Kd.R_drew));exact Kd.R_mono (Kd.R_far (p:=⟨gb422,1,none⟩) (Kd.R_types HO430.out BK422.out (by decide)) (fun _ hk => hk.2) (.slice Ao46 y428.length co46)) (fun _ hk => hk.1)⟩,⟨by (with_reducible repeat (first|refine blk_drewN ?_ _|refine blk_drew ?_|refine blk_alloc ?_ _));refine blk_far ?_ NB414_422.out _;(with_reducible repeat (first|refine blk_drewN ?_ _|refine blk_drew ?_|refine blk_alloc ?_ _));exact BK414.out⟩,⟨by (with_reducible repeat (first|refine blk_drewN ?_ _|refine blk_drew ?_|refine blk_alloc ?_ _));refine blk_far ?_ NB415_422.out _;(with_reducible repeat (first|refine blk_drewN ?_ _|refine blk_drew ?_|refine blk_alloc ?_ _));exact BK415.out⟩,⟨by (with_reducible repeat (first|refine blk_drewN ?_ _|refine blk_drew ?_|refine blk_alloc ?_ _));refine blk_far ?_ NB416_422.out _;(with_reducible repeat (first|refine blk_drewN ?_ _|refine blk_drew ?_|refine blk_alloc ?_ _));exact BK416.out⟩,⟨by (with_reducible repeat (first|refine blk_drewN ?_ _|refine blk_drew ?_|refine blk_alloc ?_ _));refine blk_put (cs:=#[.slice Ao24 y419.length co24,u423001]) ?_ 1 _ rfl;(with_reducible repeat (first|refine blk_drewN ?_ _|refine blk_drew ?_|refine blk_alloc ?_ _));exact BK422.out⟩,⟨hb_⟩⟩
       ·rw [if_neg c40] at H
        have c40b0:=bqf c40
        have c40b1:=bnt c40
        replace H:=ifp_ H;obtain ⟨c48,H⟩:=H
        have LMc48:=Aside0.mk c48
        clear c48
        obtain ⟨y431,hy431⟩ : ∃ y_ : List Int,y_ = (y428 ++ [(rd l1_1 x39_1)]):=⟨_,rfl⟩
        replace H : (hinterlandref06_Mark.l0 kj35 a2 false l1_1 (l1_1.length : Int) (wrap64 (x39_1 + 1)) y419 y431) = some (r1,r2,r3):=by first|(rw [hy431];with_reducible exact H)|(have H2_:=(Option.bind_some _ _).symm.trans H;rw [hy431];with_reducible exact H2_)|(have H2_:=(Option.bind_some _ _).symm.trans H;with_reducible exact H2_)|with_reducible exact H|(rw [hy431];exact H)|exact H
        have Ny431:=Aside0.mk hy431
        clear hy431
        have H':=Aside0.mk H
        clear H
        have hnb49:=NB422_414.out
        have hnc49:=NB414_422.out
        have hnb50:=NB422_415.out
        have hnc50:=NB415_422.out
        have hnb51:=NB422_416.out
        have hnc51:=NB416_422.out
        obtain ⟨_,_,_,_⟩:=cells2 BK422.out
        go_wp2_with (first|((with_reducible refine gate_builtin (b:=.append) (xs:=#[.tmp 50,.tmp 52]) rfl ?_);at_builtin;refine Kd.R_append (Kd.int .i64) (w0:=w) w.heap.size rfl (.tmp 50) (.tmp 52) 22 3 (.int .i64 0) 8 rfl Try.underlying22 info3 rfl (by decide) (by omega) u423001 x423001_1 a2 [.int .i64 a2] (fun k_ => some k_ ≠ (.slice Ao24 y419.length co24 : Value).ownBlock) (fun _ => False) rfl rfl ?aP (fun _ hk => hk.elim) ?aF ?aO ?aB ?aS ?aL ?_;(case aP => exact rfl);(case aB => exact (hb_));(case aF => exact (fun k_ hk => Kd.fresh' (Kd.R_lt (Kd.R_up HO_423000.out)) k_ hk));(case aO => exact (Kd.R_up HO_423001.out));(case aS => exact (below_size (hb_)));(case aL => have:=LMc39.out;omega);intro v429 w53 ho hb hg hat;rw [← Ny428.out] at ho;have HO430:=Aside0.mk (ho);replace HO_423000:=Aside0.mk (Kd.R_after (ok:=(fun _ => True)) (by (with_reducible repeat (first|apply Kd.R_alloc|apply Kd.R_drewN|apply Kd.R_drew));exact Kd.R_mono HO_423000.out (fun _ hk => ⟨trivial,hk⟩)) hg hat);replace BK414:=Aside0.mk (blk_grown (blk_up BK414.out) hg (Kd.R_ne HO_423001.out BK414.out (by decide)));replace BK415:=Aside0.mk (blk_grown (blk_up BK415.out) hg (Kd.R_ne HO_423001.out BK415.out (by decide)));replace BK416:=Aside0.mk (blk_grown (blk_up BK416.out) hg (Kd.R_ne HO_423001.out BK416.out (by decide)));replace BK422:=Aside0.mk (blk_grown (blk_up BK422.out) hg (Kd.R_ne HO_423001.out BK422.out (by decide)));replace HB:=Aside0.mk (hb);clear HO_423001;clear ho hb hg hat;obtain ⟨Ao54,co54,eo54⟩:=Kd.R_slice HO430.out;subst eo54;obtain ⟨_,_,_,_⟩:=cells2 BK422.out)|((with_reducible refine gate_builtin (b:=.append) (xs:=#[.tmp 59,.tmp 61]) rfl ?_);at_builtin;refine Kd.R_append (Kd.int .i64) (w0:=w) w.heap.size rfl (.tmp 59) (.tmp 61) 22 3 (.int .i64 0) 8 rfl Try.underlying22 info3 rfl (by decide) (by omega) (.slice Ao54 y428.length co54) y428 (rd l1_1 x39_1) [.int .i64 (rd l1_1 x39_1)] (fun k_ => some k_ ≠ (.slice Ao24 y419.length co24 : Value).ownBlock) (fun _ => False) rfl (by first|(go_simp;done)|(go_simp;rfl)) ?aP (fun _ hk => hk.elim) ?aF ?aO ?aB ?aS ?aL ?_;(case aP => exact rfl);(case aB => exact (hb_));(case aF => exact (fun k_ hk => Kd.fresh' (Kd.R_lt (by (with_reducible repeat (first|apply Kd.R_alloc|apply Kd.R_drewN|apply Kd.R_drew));exact (Kd.R_mono (Kd.R_far (p:=⟨gb422,1,none⟩) (Kd.R_types HO_423000.out BK422.out (by decide)) (fun _ hk => hk.2) (.slice Ao54 y428.length co54)) (fun _ h_ => h_.1)))) k_ hk));(case aO => exact (by (with_reducible repeat (first|apply Kd.R_alloc|apply Kd.R_drewN|apply Kd.R_drew));exact Kd.R_mono (Kd.R_far (p:=⟨gb422,1,none⟩) (Kd.R_types HO430.out BK422.out (by decide)) (fun _ hk => hk.2) (.slice Ao54 y428.length co54)) (fun _ hk => hk.1)));(case aS => exact (below_size (hb_)));(case aL => have:=LMc48.out;omega);intro v432 w56 ho hb hg hat;rw [← Ny431.out] at ho;have HO433:=Aside0.mk (ho);replace HO_423000:=Aside0.mk (Kd.R_after (ok:=(fun _ => True)) (by (with_reducible repeat (first|apply Kd.R_alloc|apply Kd.R_drewN|apply Kd.R_drew));exact Kd.R_mono (Kd.R_far (p:=⟨gb422,1,none⟩) (Kd.R_types HO_423000.out BK422.out (by decide)) (fun _ hk => hk.2) (.slice Ao54 y428.length co54)) (fun _ hk => ⟨trivial,hk.1.2⟩)) hg hat);replace BK414:=Aside0.mk (blk_grown (g:=gb414) (o:=.cells #[.int .i64 a0_0,.int .i64 a0_1,.slice A0_2 l0_2.length c0_2] 24 (0,0)) (by (with_reducible repeat (first|refine blk_drewN ?_ _|refine blk_drew ?_|refine blk_alloc ?_ _));refine blk_far ?_ NB414_422.out _;(with_reducible repeat (first|refine blk_drewN ?_ _|refine blk_drew ?_|refine blk_alloc ?_ _));exact BK414.out) hg (Kd.R_ne HO430.out BK414.out (by decide)));replace BK415:=Aside0.mk (blk_grown (g:=gb415) (o:=.cells #[.slice A1_0 l1_0.length c1_0,.slice (some ad427) l1_1.length c1_1] 26 (0,0)) (by (with_reducible repeat (first|refine blk_drewN ?_ _|refine blk_drew ?_|refine blk_alloc ?_ _));refine blk_far ?_ NB415_422.out _;(with_reducible repeat (first|refine blk_drewN ?_ _|refine blk_drew ?_|refine blk_alloc ?_ _));exact BK415.out) hg (Kd.R_ne HO430.out BK415.out (by decide)));replace BK416:=Aside0.mk (blk_grown (g:=gb416) (o:=.cells #[.slice none 0 0,.slice none 0 0] 26 (0,0)) (by (with_reducible repeat (first|refine blk_drewN ?_ _|refine blk_drew ?_|refine blk_alloc ?_ _));refine blk_far ?_ NB416_422.out _;(with_reducible repeat (first|refine blk_drewN ?_ _|refine blk_drew ?_|refine blk_alloc ?_ _));exact BK416.out) hg (Kd.R_ne HO430.out BK416.out (by decide)));replace BK422:=Aside0.mk (blk_grown (g:=gb422) (o:=.cells #[.slice Ao24 y419.length co24,.slice Ao54 y428.length co54] 26 (0,0)) (by (with_reducible repeat (first|refine blk_drewN ?_ _|refine blk_drew ?_|refine blk_alloc ?_ _));refine blk_put (cs:=#[.slice Ao24 y419.length co24,u423001]) ?_ 1 _ rfl;(with_reducible repeat (first|refine blk_drewN ?_ _|refine blk_drew ?_|refine blk_alloc ?_ _));exact BK422.out) hg (Kd.R_ne HO430.out BK422.out (by decide)));replace HB:=Aside0.mk (hb);clear HO430;clear ho hb hg hat;obtain ⟨Ao57,co57,eo57⟩:=Kd.R_slice HO433.out;subst eo57;obtain ⟨_,_,_,_⟩:=cells2 BK422.out))
        go_roundg kj35
        case measure => have:=HK1.out;have:=HJ35.out;omega
        case rel => exact ⟨(false),(wrap64 (x39_1 + 1)),(y431),(.slice Ao57 y431.length co57),(by first|rfl|(simp;done)|(simp [*];done)),(by first|rfl|(simp;done)|(simp [*];done)),H',⟨by have:=HK1.out;have:=HJ35.out;omega⟩,⟨by (with_reducible repeat (first|apply Kd.R_alloc|apply Kd.R_drewN|apply Kd.R_drew));exact Kd.R_mono (Kd.R_far (p:=⟨gb422,1,none⟩) (Kd.R_types HO_423000.out BK422.out (by decide)) (fun _ hk => hk.2) (.slice Ao57 y431.length co57)) (fun _ hk => hk.1.2)⟩,⟨by (with_reducible repeat (first|apply Kd.R_alloc|apply Kd.R_drewN|apply Kd.R_drew));exact Kd.R_mono (Kd.R_far (p:=⟨gb422,1,none⟩) (Kd.R_types HO433.out BK422.out (by decide)) (fun _ hk => hk.2) (.slice Ao57 y431.length co57)) (fun _ hk => hk.1)⟩,⟨by (with_reducible repeat (first|refine blk_drewN ?_ _|refine blk_drew ?_|refine blk_alloc ?_ _));refine blk_far ?_ NB414_422.out _;(with_reducible repeat (first|refine blk_drewN ?_ _|refine blk_drew ?_|refine blk_alloc ?_ _));exact BK414.out⟩,⟨by (with_reducible repeat (first|refine blk_drewN ?_ _|refine blk_drew ?_|refine blk_alloc ?_ _));refine blk_far ?_ NB415_422.out _;(with_reducible repeat (first|refine blk_drewN ?_ _|refine blk_drew ?_|refine blk_alloc ?_ _));exact BK415.out⟩,⟨by (with_reducible repeat (first|refine blk_drewN ?_ _|refine blk_drew ?_|refine blk_alloc ?_ _));refine blk_far ?_ NB416_422.out _;(with_reducible repeat (first|refine blk_drewN ?_ _|refine blk_drew ?_|refine blk_alloc ?_ _));exact BK416.out⟩,⟨by (with_reducible repeat (first|refine blk_drewN ?_ _|refine blk_drew ?_|refine blk_alloc ?_ _));refine blk_put (cs:=#[.slice Ao24 y419.length co24,.slice Ao54 y428.length co54]) ?_ 1 _ rfl;(with_reducible repeat (first|refine blk_drewN ?_ _|refine blk_drew ?_|refine blk_alloc ?_ _));exact BK422.out⟩,⟨hb_⟩⟩
      ·replace c38:=Bool.eq_false_iff.mpr c38
       subst c38
       have H1 : (if (rd l1_1 x39_1) = a2 then (hinterlandref06_Mark.l0 kj35 a2 x10_1 l1_1 (l1_1.length : Int) (wrap64 (x39_1 + 1)) y419 x423001_1) else (if x423001_1.length < 17592186044416 then (hinterlandref06_Mark.l0 kj35 a2 x10_1 l1_1 (l1_1.length : Int) (wrap64 (x39_1 + 1)) y419 (x423001_1 ++ [(rd l1_1 x39_1)])) else (none))) = some (r1,r2,r3):=by rw [if_neg (show ¬ (false = true) by decide)] at H;exact H
       clear H
       have H:=H1
       clear H1
       by_cases c59 : (rd l1_1 x39_1) = a2
       ·rw [if_pos c59] at H
        have c59b0:=bqt c59
        have c59b1:=bnf c59
        clear c59
        have H':=Aside0.mk H
        clear H
        go_wp2
        go_roundg kj35
        case measure => have:=HK1.out;have:=HJ35.out;omega
        case rel => exact ⟨(x10_1),(wrap64 (x39_1 + 1)),(x423001_1),(u423001),(by first|rfl|(simp;done)|(simp [*];done)),(by first|rfl|(simp;done)|(simp [*];done)),H',⟨by have:=HK1.out;have:=HJ35.out;omega⟩,⟨Kd.R_up HO_423000.out⟩,⟨Kd.R_up HO_423001.out⟩,⟨blk_up BK414.out⟩,⟨blk_up BK415.out⟩,⟨blk_up BK416.out⟩,⟨blk_up BK422.out⟩,⟨hb_⟩⟩
       ·rw [if_neg c59] at H
        have c59b0:=bqf c59
        have c59b1:=bnt c59
        replace H:=ifp_ H;obtain ⟨c60,H⟩:=H
        have LMc60:=Aside0.mk c60
        clear c60
        obtain ⟨y434,hy434⟩ : ∃ y_ : List Int,y_ = (x423001_1 ++ [(rd l1_1 x39_1)]):=⟨_,rfl⟩
        replace H : (hinterlandref06_Mark.l0 kj35 a2 x10_1 l1_1 (l1_1.length : Int) (wrap64 (x39_1 + 1)) y419 y434) = some (r1,r2,r3):=by first|(rw [hy434];with_reducible exact H)|(have H2_:=(Option.bind_some _ _).symm.trans H;rw [hy434];with_reducible exact H2_)|(have H2_:=(Option.bind_some _ _).symm.trans H;with_reducible exact H2_)|with_reducible exact H|(rw [hy434];exact H)|exact H
        have Ny434:=Aside0.mk hy434
        clear hy434
        have H':=Aside0.mk H
        clear H
        have hnb61:=NB422_414.out
        have hnc61:=NB414_422.out
        have hnb62:=NB422_415.out
        have hnc62:=NB415_422.out
        have hnb63:=NB422_416.out
        have hnc63:=NB416_422.out
        obtain ⟨_,_,_,_⟩:=cells2 BK422.out
        go_wp2_with (first|((with_reducible refine gate_builtin (b:=.append) (xs:=#[.tmp 59,.tmp 61]) rfl ?_);at_builtin;refine Kd.R_append (Kd.int .i64) (w0:=w) w.heap.size rfl (.tmp 59) (.tmp 61) 22 3 (.int .i64 0) 8 rfl Try.underlying22 info3 rfl (by decide) (by omega) u423001 x423001_1 (rd l1_1 x39_1) [.int .i64 (rd l1_1 x39_1)] (fun k_ => some k_ ≠ (.slice Ao24 y419.length co24 : Value).ownBlock) (fun _ => False) rfl rfl ?aP (fun _ hk => hk.elim) ?aF ?aO ?aB ?aS ?aL ?_;(case aP => exact rfl);(case aB => exact (hb_));(case aF => exact (fun k_ hk => Kd.fresh' (Kd.R_lt (Kd.R_up HO_423000.out)) k_ hk));(case aO => exact (Kd.R_up HO_423001.out));(case aS => exact (below_size (hb_)));(case aL => have:=LMc60.out;omega);intro v435 w65 ho hb hg hat;rw [← Ny434.out] at ho;have HO436:=Aside0.mk (ho);replace HO_423000:=Aside0.mk (Kd.R_after (ok:=(fun _ => True)) (by (with_reducible repeat (first|apply Kd.R_alloc|apply Kd.R_drewN|apply Kd.R_drew));exact Kd.R_mono HO_423000.out (fun _ hk => ⟨trivial,hk⟩)) hg hat);replace BK414:=Aside0.mk (blk_grown (blk_up BK414.out) hg (Kd.R_ne HO_423001.out BK414.out (by decide)));replace BK415:=Aside0.mk (blk_grown (blk_up BK415.out) hg (Kd.R_ne HO_423001.out BK415.out (by decide)));replace BK416:=Aside0.mk (blk_grown (blk_up BK416.out) hg (Kd.R_ne HO_423001.out BK416.out (by decide)));replace BK422:=Aside0.mk (blk_grown (blk_up BK422.out) hg (Kd.R_ne HO_423001.out BK422.out (by decide)));replace HB:=Aside0.mk (hb);clear HO_423001;clear ho hb hg hat;obtain ⟨Ao66,co66,eo66⟩:=Kd.R_slice HO436.out;subst eo66;obtain ⟨_,_,_,_⟩:=cells2 BK422.out))
        go_roundg kj35
        case measure => have:=HK1.out;have:=HJ35.out;omega
        case rel => exact ⟨(x10_1),(wrap64 (x39_1 + 1)),(y434),(.slice Ao66 y434.length co66),(by first|rfl|(simp;done)|(simp [*];done)),(by first|rfl|(simp;done)|(simp [*];done)),H',⟨by have:=HK1.out;have:=HJ35.out;omega⟩,⟨by (with_reducible repeat (first|apply Kd.R_alloc|apply Kd.R_drewN|apply Kd.R_drew));exact Kd.R_mono (Kd.R_far (p:=⟨gb422,1,none⟩) (Kd.R_types HO_423000.out BK422.out (by decide)) (fun _ hk => hk.2) (.slice Ao66 y434.length co66)) (fun _ hk => hk.1.2)⟩,⟨by (with_reducible repeat (first|apply Kd.R_alloc|apply Kd.R_drewN|apply Kd.R_drew));exact Kd.R_mono (Kd.R_far (p:=⟨gb422,1,none⟩) (Kd.R_types HO436.out BK422.out (by decide)) (fun _ hk => hk.2) (.slice Ao66 y434.length co66)) (fun _ hk => hk.1)⟩,⟨by (with_reducible repeat (first|refine blk_drewN ?_ _|refine blk_drew ?_|refine blk_alloc ?_ _));refine blk_far ?_ NB414_422.out _;(with_reducible repeat (first|refine blk_drewN ?_ _|refine blk_drew ?_|refine blk_alloc ?_ _));exact BK414.out⟩,⟨by (with_reducible repeat (first|refine blk_drewN ?_ _|refine blk_drew ?_|refine blk_alloc ?_ _));refine blk_far ?_ NB415_422.out _;(with_reducible repeat (first|refine blk_drewN ?_ _|refine blk_drew ?_|refine blk_alloc ?_ _));exact BK415.out⟩,⟨by (with_reducible repeat (first|refine blk_drewN ?_ _|refine blk_drew ?_|refine blk_alloc ?_ _));refine blk_far ?_ NB416_422.out _;(with_reducible repeat (first|refine blk_drewN ?_ _|refine blk_drew ?_|refine blk_alloc ?_ _));exact BK416.out⟩,⟨by (with_reducible repeat (first|refine blk_drewN ?_ _|refine blk_drew ?_|refine blk_alloc ?_ _));refine blk_put (cs:=#[.slice Ao24 y419.length co24,u423001]) ?_ 1 _ rfl;(with_reducible repeat (first|refine blk_drewN ?_ _|refine blk_drew ?_|refine blk_alloc ?_ _));exact BK422.out⟩,⟨hb_⟩⟩
 ·replace c7:=Bool.eq_false_iff.mpr c7
  subst c7
  have H1 : (some (([] : List Int),([] : List Int),9)) = some (r1,r2,r3):=by rw [if_neg (show ¬ (false = true) by decide)] at H;exact H
  clear H
  have H:=H1
  clear H1
  simp only [Option.some.injEq,Prod.mk.injEq] at H
  obtain ⟨rfl,rfl,rfl⟩:=H
  go_enter Try.func38,Try.ntmps38
  go_wp2_with (first|((with_reducible refine gate_dst (N:=3) rfl ?_);refine box_ev (N:=3) (cs:=#[.int .i64 a0_0,.int .i64 a0_1,.slice A0_2 l0_2.length c0_2]) (t:=24) ?_;intro gb414 hg w88 hbox hb;have BK414:=Aside0.mk (hbox);have GW414 : Aside0 (w.heap.size ≤ gb414):=gsz hg;have GE414:=GW414;replace HB:=hbs hb;clear hb hbox hg)|((with_reducible refine gate_dst (N:=4) rfl ?_);refine box_ev (N:=4) (cs:=#[.slice A1_0 l1_0.length c1_0,.slice A1_1 l1_1.length c1_1]) (t:=26) ?_;intro gb415 hg w89 hbox hb;have BK415:=Aside0.mk (hbox);have GW415 : Aside0 (w.heap.size ≤ gb415):=gsz hg;have GE415:=GW415;have NB414_415:=nbl BK414 hg;have NB415_414:=nbr BK414 hg;replace BK414:=bkb BK414 hb;replace HB:=hbs hb;clear hb hbox hg)|((with_reducible refine gate_dst (N:=6) rfl ?_);refine box_ev (N:=6) (cs:=#[.slice none 0 0,.slice none 0 0]) (t:=26) ?_;intro gb416 hg w90 hbox hb;have BK416:=Aside0.mk (hbox);have GW416 : Aside0 (w.heap.size ≤ gb416):=gsz hg;have GE416:=GW416;have NB414_416:=nbl BK414 hg;have NB416_414:=nbr BK414 hg;have NB415_416:=nbl BK415 hg;have NB416_415:=nbr BK415 hg;replace BK414:=bkb BK414 hb;replace BK415:=bkb BK415 hb;replace HB:=hbs hb;clear hb hbox hg;have hnb91:=NB414_415.out;have hnc91:=NB415_414.out;have hnb92:=NB414_416.out;have hnc92:=NB416_414.out;obtain ⟨_,_,_,_,_,_⟩:=cells3 BK414.out;have hnb94:=NB415_416.out;have hnc94:=NB416_415.out;obtain ⟨_,_,_,_⟩:=cells2 BK415.out)|((with_reducible refine gate_callee (f:=42) rfl ?_);refine goesL_ (some 16) rfl rfl Try.func42 (by kernel_rfl) rfl #[.agg #[.int .i64 a0_0,.int .i64 a0_1,.slice A0_2 l0_2.length c0_2],.agg #[.slice A1_0 l1_0.length c1_0,.slice A1_1 l1_1.length c1_1],.int .i64 a2] rfl ga_ ?_;(with_reducible refine (hinterlandref06_place.calls k a0_0 a0_1 _ _ l0_2 _ _ l1_0 _ _ l1_1 a2 t417 _ ?_ ?_ ?_ ?_ ?_ ?_ A4.out).mono ?_);exact cq HR0_2;exact HC0_2.out;exact cq HR1_0;exact HC1_0.out;exact cq HR1_1;exact HC1_1.out;rintro e w96 ⟨rfl,hb⟩;refine ⟨_,rfl,?_⟩;replace BK414:=bkb BK414 hb;replace BK415:=bkb BK415 hb;replace BK416:=bkb BK416 hb;replace HB:=hbs hb;obtain ⟨_,_,_,_,_,_⟩:=cells3 BK414.out;obtain ⟨_,_,_,_⟩:=cells2 BK415.out)|((with_reducible refine gate_callee (f:=47) rfl ?_);refine goesL_ (some 25) rfl rfl Try.func47 (by kernel_rfl) rfl #[.agg #[.int .i64 a0_0,.int .i64 a0_1,.slice A0_2 l0_2.length c0_2],.slice A1_0 l1_0.length c1_0,.int .i64 a2] rfl ga_ ?_;(with_reducible refine (hinterlandref06_Wet.calls k a0_0 a0_1 _ _ l0_2 _ _ l1_0 a2 false _ ?_ ?_ ?_ ?_ A6.out).mono ?_);exact cq HR0_2;exact HC0_2.out;exact cq HR1_0;exact HC1_0.out;rintro e w99 ⟨rfl,hb⟩;refine ⟨_,rfl,?_⟩;replace BK414:=bkb BK414 hb;replace BK415:=bkb BK415 hb;replace BK416:=bkb BK416 hb;replace HB:=hbs hb;obtain ⟨_,_,_,_⟩:=cells2 BK416.out))
  refine bodyPost_ret (results_ct rfl _ _ gb416 26 #[.slice none 0 0,.slice none 0 0] (0,0) _ rfl (by (with_reducible repeat (first|refine blk_drewN ?_ _|refine blk_drew ?_|refine blk_alloc ?_ _));exact blk_puts2 (blk_up BK416.out)) Try.underlying26 rfl (by kernel_rfl)) rfl ?_
  exact ⟨_,_,er_,nl_,nl_,hb_⟩

end Go.Proofs.Ytiencnnkphipoaa.P

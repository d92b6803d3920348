/- Functions of this seat as plain Lean functions, with proofs that the Go code comes to just their answers, or what stands between them and a law's statement; no conditions. (Laid by a program of this session, out of the kit's print.) -/
import Derived.Test.YtiencnnkphipoaaPx0
import Derived.Test.YtiencnnkphipoaaPx1
import Derived.Test.YtiencnnkphipoaaPx2
import Derived.Test.YtiencnnkphipoaaPx4
import Derived.Test.YtiencnnkphipoaaPx5
import Derived.Test.YtiencnnkphipoaaPx6
import Derived.Test.YtiencnnkphipoaaPx7
namespace Go.Proofs.Ytiencnnkphipoaa.P
open Go.RowKit Go.Proofs.YtiencnnkphipoaaW.PrintWords Go.Proofs.YtiencnnkphipoaaW.PrintLast Go.Proofs.YtiencnnkphipoaaW.PrintMore
attribute [local go_sem] max2_int min2_int max_two min_two max_three min_three max_four min_four   -- for this text's walks alone
set_option linter.unusedVariables false
set_option linter.unusedSimpArgs false

/-! ### water_Mark: function 37 -/
def water_Mark.f (k : Nat) (a0_0 : Int) (a0_1 : Int) (l0_2 : List Int) (l1_0 : List Int) (l1_1 : List Int) (a2 : Int) : Option (List Int × List Int × Int) := (water_at.f k a0_0 a0_1 l0_2 l1_0 l1_1 a2).bind fun bt328 => (if bt328.2.2.2.2.2 = 0 then ((water_ground_wet.f bt328.1 bt328.2.1 bt328.2.2.1 bt328.2.2.2.1 bt328.2.2.2.2.1 l1_0 l1_1 a2).bind fun t341 => (if t341 = true then ((water_clone.f l1_0 l1_1).bind fun bt342 => ((slices_BinarySearch_int_int.f k bt342.2 a2).bind fun bt349 => (if bt349.2 = true then ((slices_Delete_int_int.f bt342.2 bt349.1 (wrap64 (bt349.1 + 1))).bind fun t351 => (some (bt342.1, t351, 0))) else ((slices_Insert_int_int.f bt342.2 bt349.1 (([a2] : List Int))).bind fun t357 => (some (bt342.1, t357, 0)))))) else (some (([] : List Int), ([] : List Int), 9)))) else (some (([] : List Int), ([] : List Int), bt328.2.2.2.2.2)))
theorem water_Mark.mono : ∀ a0 a1 a2 a3 a4 a5 k, LeO (water_Mark.f k a0 a1 a2 a3 a4 a5) (water_Mark.f (k + 1) a0 a1 a2 a3 a4 a5) := by
 intro a0 a1 a2 a3 a4 a5 k
 unfold water_Mark.f
 repeat' first
   | (with_reducible exact slices_BinarySearch_int_int.mono _ _ _)
   | (with_reducible exact water_at.mono _ _ _ _ _ _ _)
   | (with_reducible exact LeO.refl _)
   | (with_reducible exact LeO.none _)
   | (with_reducible refine LeO.ite ?_ ?_)
   | (with_reducible refine LeO.bind ?_ (fun _ => ?_))
   | exact slices_BinarySearch_int_int.mono _ _ _
   | exact water_at.mono _ _ _ _ _ _ _
   | exact LeO.none _
   | refine LeO.ite ?_ ?_
   | refine LeO.bind ?_ (fun _ => ?_)
set_option maxHeartbeats 8000000 in
set_option maxRecDepth 100000 in
theorem water_Mark.calls (k : Nat) (a0_0 : Int) (a0_1 : Int) (A0_2 : Option Addr) (c0_2 : Nat) (l0_2 : List Int) (A1_0 : Option Addr) (c1_0 : Nat) (l1_0 : List Int) (A1_1 : Option Addr) (c1_1 : Nat) (l1_1 : List Int) (a2 : Int) (r1 : List Int) (r2 : List Int) (r3 : Int) (w : World) (hr0_2 : Kd.C (Kd.int .i64) w A0_2 l0_2.length l0_2) (hc0_2 : l0_2.length ≤ c0_2) (hr1_0 : Kd.C (Kd.int .i64) w A1_0 l1_0.length l1_0) (hc1_0 : l1_0.length ≤ c1_0) (hr1_1 : Kd.C (Kd.int .i64) w A1_1 l1_1.length l1_1) (hc1_1 : l1_1.length ≤ c1_1) (h : water_Mark.f k a0_0 a0_1 l0_2 l1_0 l1_1 a2 = some (r1, r2, r3)) :
  Calls Try.prog 37 #[.agg #[.int .i64 a0_0,.int .i64 a0_1,.slice A0_2 l0_2.length c0_2],.agg #[.slice A1_0 l1_0.length c1_0,.slice A1_1 l1_1.length c1_1],.int .i64 a2] w fun e w' => ∃ v0_ v1_ : Value,e = .returned (.tuple #[.agg #[v0_,v1_],.int .i64 r3]) ∧ Kd.R (Kd.int .i64) 3 w' w.heap.size (fun k_ => some k_ ≠ (v1_ : Value).ownBlock) v0_ r1 ∧ Kd.R (Kd.int .i64) 3 w' w.heap.size (fun k_ => some k_ ≠ (v0_ : Value).ownBlock) v1_ r2 ∧ Below w.heap.size w w':=by
 have hu24:=Try.underlying24
 have hu26:=Try.underlying26
 have hu52:=Try.underlying52
 have HR0_2:=Aside0.mk hr0_2
 have HC0_2:=Aside0.mk hc0_2
 clear hr0_2 hc0_2
 have HR1_0:=Aside0.mk hr1_0
 have HC1_0:=Aside0.mk hc1_0
 clear hr1_0 hc1_0
 have HR1_1:=Aside0.mk hr1_1
 have HC1_1:=Aside0.mk hc1_1
 clear hr1_1 hc1_1
 have HB:=Aside0.mk (Below.refl w.heap.size w)
 have H : ((water_at.f k a0_0 a0_1 l0_2 l1_0 l1_1 a2).bind fun bt328 => (if bt328.2.2.2.2.2 = 0 then ((water_ground_wet.f bt328.1 bt328.2.1 bt328.2.2.1 bt328.2.2.2.1 bt328.2.2.2.2.1 l1_0 l1_1 a2).bind fun t341 => (if t341 = true then ((water_clone.f l1_0 l1_1).bind fun bt342 => ((slices_BinarySearch_int_int.f k bt342.2 a2).bind fun bt349 => (if bt349.2 = true then ((slices_Delete_int_int.f bt342.2 bt349.1 (wrap64 (bt349.1 + 1))).bind fun t351 => (some (bt342.1,t351,0))) else ((slices_Insert_int_int.f bt342.2 bt349.1 (([a2] : List Int))).bind fun t357 => (some (bt342.1,t357,0)))))) else (some (([] : List Int),([] : List Int),9)))) else (some (([] : List Int),([] : List Int),bt328.2.2.2.2.2)))) = some (r1,r2,r3):=h
 clear h
 replace H:=Option.bind_eq_some_iff.mp H
 obtain ⟨⟨t328,t329,t330,t333,t336,t339⟩,A40,H⟩:=H
 replace H : (if t339 = 0 then ((water_ground_wet.f t328 t329 t330 t333 t336 l1_0 l1_1 a2).bind fun t341 => (if t341 = true then ((water_clone.f l1_0 l1_1).bind fun bt342 => ((slices_BinarySearch_int_int.f k bt342.2 a2).bind fun bt349 => (if bt349.2 = true then ((slices_Delete_int_int.f bt342.2 bt349.1 (wrap64 (bt349.1 + 1))).bind fun t351 => (some (bt342.1,t351,0))) else ((slices_Insert_int_int.f bt342.2 bt349.1 (([a2] : List Int))).bind fun t357 => (some (bt342.1,t357,0)))))) else (some (([] : List Int),([] : List Int),9)))) else (some (([] : List Int),([] : List Int),t339))) = some (r1,r2,r3):=H
 have A4:=Aside0.mk A40
 clear A40
 by_cases c5 : t339 = 0
 rotate_left
 ·rw [if_neg c5] at H
  have c5b0:=bqf c5
  have c5b1:=bnt c5
  simp only [Option.some.injEq,Prod.mk.injEq] at H
  obtain ⟨rfl,rfl,rfl⟩:=H
  go_enter Try.func37,Try.ntmps37
  go_wp2_with (first|((with_reducible refine gate_dst (N:=3) rfl ?_);refine box_ev (N:=3) (cs:=#[.int .i64 a0_0,.int .i64 a0_1,.slice A0_2 l0_2.length c0_2]) (t:=24) ?_;intro gb325 hg w104 hbox hb;have BK325:=Aside0.mk (hbox);have GW325 : Aside0 (w.heap.size ≤ gb325):=gsz hg;have GE325:=GW325;replace HB:=hbs hb;clear hb hbox hg)|((with_reducible refine gate_dst (N:=4) rfl ?_);refine box_ev (N:=4) (cs:=#[.slice A1_0 l1_0.length c1_0,.slice A1_1 l1_1.length c1_1]) (t:=26) ?_;intro gb326 hg w105 hbox hb;have BK326:=Aside0.mk (hbox);have GW326 : Aside0 (w.heap.size ≤ gb326):=gsz hg;have GE326:=GW326;have NB325_326:=nbl BK325 hg;have NB326_325:=nbr BK325 hg;replace BK325:=bkb BK325 hb;replace HB:=hbs hb;clear hb hbox hg)|((with_reducible refine gate_dst (N:=6) rfl ?_);refine box_ev (N:=6) (cs:=#[.slice none 0 0,.slice none 0 0]) (t:=26) ?_;intro gb327 hg w106 hbox hb;have BK327:=Aside0.mk (hbox);have GW327 : Aside0 (w.heap.size ≤ gb327):=gsz hg;have GE327:=GW327;have NB325_327:=nbl BK325 hg;have NB327_325:=nbr BK325 hg;have NB326_327:=nbl BK326 hg;have NB327_326:=nbr BK326 hg;replace BK325:=bkb BK325 hb;replace BK326:=bkb BK326 hb;replace HB:=hbs hb;clear hb hbox hg;have hnb107:=NB325_326.out;have hnc107:=NB326_325.out;have hnb108:=NB325_327.out;have hnc108:=NB327_325.out;obtain ⟨_,_,_,_,_,_⟩:=cells3 BK325.out;have hnb110:=NB326_327.out;have hnc110:=NB327_326.out;obtain ⟨_,_,_,_⟩:=cells2 BK326.out)|((with_reducible refine gate_callee (f:=40) rfl ?_);refine goesL_ (some 17) rfl rfl Try.func40 (by kernel_rfl) rfl #[.agg #[.int .i64 a0_0,.int .i64 a0_1,.slice A0_2 l0_2.length c0_2],.agg #[.slice A1_0 l1_0.length c1_0,.slice A1_1 l1_1.length c1_1],.int .i64 a2] rfl ga_ ?_;(with_reducible refine (water_at.calls k a0_0 a0_1 _ _ l0_2 _ _ l1_0 _ _ l1_1 a2 t328 t329 t330 t333 t336 t339 _ ?_ ?_ ?_ ?_ ?_ ?_ A4.out).mono ?_);exact cq HR0_2;exact HC0_2.out;exact cq HR1_0;exact HC1_0.out;exact cq HR1_1;exact HC1_1.out;rintro e w112 ⟨v331,v334,v337,rfl,ho0,ho1,ho2,hb⟩;refine ⟨_,rfl,?_⟩;have HO332:=rlo ho0;have HO335:=rlo ho1;have HO338:=rlo ho2;replace BK325:=bkb BK325 hb;replace BK326:=bkb BK326 hb;replace BK327:=bkb BK327 hb;replace HB:=hbs hb)|((with_reducible refine gate_dst (N:=8) rfl ?_);refine box_ev (N:=8) (cs:=#[.int .i64 0,.int .i64 0,.slice none 0 0,.slice none 0 0,.slice none 0 0]) (t:=52) ?_;intro gb340 hg w113 hbox hb;have BK340:=Aside0.mk (hbox);have GW340 : Aside0 (w.heap.size ≤ gb340):=gsz hg;have GE340:=GW340;have NB325_340:=nbl BK325 hg;have NB340_325:=nbr BK325 hg;have NB326_340:=nbl BK326 hg;have NB340_326:=nbr BK326 hg;have NB327_340:=nbl BK327 hg;have NB340_327:=nbr BK327 hg;replace HO332:=rbw HO332 hb;replace HO335:=rbw HO335 hb;replace HO338:=rbw HO338 hb;replace BK325:=bkb BK325 hb;replace BK326:=bkb BK326 hb;replace BK327:=bkb BK327 hb;replace HB:=hbs hb;clear hb hbox hg;have hnb114:=NB340_325.out;have hnc114:=NB325_340.out;have hnb115:=NB340_326.out;have hnc115:=NB326_340.out;have hnb116:=NB340_327.out;have hnc116:=NB327_340.out;obtain ⟨_,_,_,_,_,_,_,_,_,_⟩:=cells5 BK340.out;obtain ⟨Ao118,co118,eo118⟩:=Kd.R_slice HO332.out;subst eo118;obtain ⟨Ao119,co119,eo119⟩:=Kd.R_slice HO335.out;subst eo119;obtain ⟨Ao120,co120,eo120⟩:=Kd.R_slice HO338.out;subst eo120;obtain ⟨_,_,_,_⟩:=cells2 BK327.out))
  refine bodyPost_ret (results_ct rfl _ _ gb327 26 #[.slice none 0 0,.slice none 0 0] (0,0) _ rfl (by (with_reducible repeat (first|refine blk_drewN ?_ _|refine blk_drew ?_|refine blk_alloc ?_ _));refine blk_put (cs:=#[.slice none 0 0,.slice none 0 0]) ?_ 1 _ rfl;(with_reducible repeat (first|refine blk_drewN ?_ _|refine blk_drew ?_|refine blk_alloc ?_ _));refine blk_put (cs:=#[.slice none 0 0,.slice none 0 0]) ?_ 0 _ rfl;(with_reducible repeat (first|refine blk_drewN ?_ _|refine blk_drew ?_|refine blk_alloc ?_ _));refine blk_far ?_ NB327_340.out _;(with_reducible repeat (first|refine blk_drewN ?_ _|refine blk_drew ?_|refine blk_alloc ?_ _));refine blk_far ?_ NB327_340.out _;(with_reducible repeat (first|refine blk_drewN ?_ _|refine blk_drew ?_|refine blk_alloc ?_ _));refine blk_far ?_ NB327_340.out _;(with_reducible repeat (first|refine blk_drewN ?_ _|refine blk_drew ?_|refine blk_alloc ?_ _));refine blk_far ?_ NB327_340.out _;(with_reducible repeat (first|refine blk_drewN ?_ _|refine blk_drew ?_|refine blk_alloc ?_ _));refine blk_far ?_ NB327_340.out _;(with_reducible repeat (first|refine blk_drewN ?_ _|refine blk_drew ?_|refine blk_alloc ?_ _));exact BK327.out) Try.underlying26 rfl (by kernel_rfl)) rfl ?_
  exact ⟨_,_,er_,nl_,nl_,hb_⟩
 rw [if_pos c5] at H
 have c5b0:=bqt c5
 have c5b1:=bnf c5
 clear c5
 replace H:=Option.bind_eq_some_iff.mp H
 obtain ⟨t341,A60,H⟩:=H
 replace H : (if t341 = true then ((water_clone.f l1_0 l1_1).bind fun bt342 => ((slices_BinarySearch_int_int.f k bt342.2 a2).bind fun bt349 => (if bt349.2 = true then ((slices_Delete_int_int.f bt342.2 bt349.1 (wrap64 (bt349.1 + 1))).bind fun t351 => (some (bt342.1,t351,0))) else ((slices_Insert_int_int.f bt342.2 bt349.1 (([a2] : List Int))).bind fun t357 => (some (bt342.1,t357,0)))))) else (some (([] : List Int),([] : List Int),9))) = some (r1,r2,r3):=H
 have A6:=Aside0.mk A60
 clear A60
 by_cases c7 : t341 = true
 ·subst c7
  have H1 : ((water_clone.f l1_0 l1_1).bind fun bt342 => ((slices_BinarySearch_int_int.f k bt342.2 a2).bind fun bt349 => (if bt349.2 = true then ((slices_Delete_int_int.f bt342.2 bt349.1 (wrap64 (bt349.1 + 1))).bind fun t351 => (some (bt342.1,t351,0))) else ((slices_Insert_int_int.f bt342.2 bt349.1 (([a2] : List Int))).bind fun t357 => (some (bt342.1,t357,0)))))) = some (r1,r2,r3):=by rw [if_pos rfl] at H;exact H
  clear H
  have H:=H1
  clear H1
  replace H:=Option.bind_eq_some_iff.mp H
  obtain ⟨⟨t342,t345⟩,A80,H⟩:=H
  replace H : ((slices_BinarySearch_int_int.f k t345 a2).bind fun bt349 => (if bt349.2 = true then ((slices_Delete_int_int.f t345 bt349.1 (wrap64 (bt349.1 + 1))).bind fun t351 => (some (t342,t351,0))) else ((slices_Insert_int_int.f t345 bt349.1 (([a2] : List Int))).bind fun t357 => (some (t342,t357,0))))) = some (r1,r2,r3):=H
  have A8:=Aside0.mk A80
  clear A80
  replace H:=Option.bind_eq_some_iff.mp H
  obtain ⟨⟨t349,t350⟩,A90,H⟩:=H
  replace H : (if t350 = true then ((slices_Delete_int_int.f t345 t349 (wrap64 (t349 + 1))).bind fun t351 => (some (t342,t351,0))) else ((slices_Insert_int_int.f t345 t349 (([a2] : List Int))).bind fun t357 => (some (t342,t357,0)))) = some (r1,r2,r3):=H
  have A9:=Aside0.mk A90
  clear A90
  by_cases c10 : t350 = true
  ·subst c10
   have H1 : ((slices_Delete_int_int.f t345 t349 (wrap64 (t349 + 1))).bind fun t351 => (some (t342,t351,0))) = some (r1,r2,r3):=by rw [if_pos rfl] at H;exact H
   clear H
   have H:=H1
   clear H1
   replace H:=Option.bind_eq_some_iff.mp H
   obtain ⟨t351,A110,H⟩:=H
   replace H : (some (t342,t351,0)) = some (r1,r2,r3):=H
   have A11:=Aside0.mk A110
   clear A110
   simp only [Option.some.injEq,Prod.mk.injEq] at H
   obtain ⟨rfl,rfl,rfl⟩:=H
   go_enter Try.func37,Try.ntmps37
   go_wp2_with (first|((with_reducible refine gate_dst (N:=3) rfl ?_);refine box_ev (N:=3) (cs:=#[.int .i64 a0_0,.int .i64 a0_1,.slice A0_2 l0_2.length c0_2]) (t:=24) ?_;intro gb325 hg w12 hbox hb;have BK325:=Aside0.mk (hbox);have GW325 : Aside0 (w.heap.size ≤ gb325):=gsz hg;have GE325:=GW325;replace HB:=hbs hb;clear hb hbox hg)|((with_reducible refine gate_dst (N:=4) rfl ?_);refine box_ev (N:=4) (cs:=#[.slice A1_0 l1_0.length c1_0,.slice A1_1 l1_1.length c1_1]) (t:=26) ?_;intro gb326 hg w13 hbox hb;have BK326:=Aside0.mk (hbox);have GW326 : Aside0 (w.heap.size ≤ gb326):=gsz hg;have GE326:=GW326;have NB325_326:=nbl BK325 hg;have NB326_325:=nbr BK325 hg;replace BK325:=bkb BK325 hb;replace HB:=hbs hb;clear hb hbox hg)|((with_reducible refine gate_dst (N:=6) rfl ?_);refine box_ev (N:=6) (cs:=#[.slice none 0 0,.slice none 0 0]) (t:=26) ?_;intro gb327 hg w14 hbox hb;have BK327:=Aside0.mk (hbox);have GW327 : Aside0 (w.heap.size ≤ gb327):=gsz hg;have GE327:=GW327;have NB325_327:=nbl BK325 hg;have NB327_325:=nbr BK325 hg;have NB326_327:=nbl BK326 hg;have NB327_326:=nbr BK326 hg;replace BK325:=bkb BK325 hb;replace BK326:=bkb BK326 hb;replace HB:=hbs hb;clear hb hbox hg;have hnb15:=NB325_326.out;have hnc15:=NB326_325.out;have hnb16:=NB325_327.out;have hnc16:=NB327_325.out;obtain ⟨_,_,_,_,_,_⟩:=cells3 BK325.out;have hnb18:=NB326_327.out;have hnc18:=NB327_326.out;obtain ⟨_,_,_,_⟩:=cells2 BK326.out)|((with_reducible refine gate_callee (f:=40) rfl ?_);refine goesL_ (some 17) rfl rfl Try.func40 (by kernel_rfl) rfl #[.agg #[.int .i64 a0_0,.int .i64 a0_1,.slice A0_2 l0_2.length c0_2],.agg #[.slice A1_0 l1_0.length c1_0,.slice A1_1 l1_1.length c1_1],.int .i64 a2] rfl ga_ ?_;(with_reducible refine (water_at.calls k a0_0 a0_1 _ _ l0_2 _ _ l1_0 _ _ l1_1 a2 t328 t329 t330 t333 t336 t339 _ ?_ ?_ ?_ ?_ ?_ ?_ A4.out).mono ?_);exact cq HR0_2;exact HC0_2.out;exact cq HR1_0;exact HC1_0.out;exact cq HR1_1;exact HC1_1.out;rintro e w20 ⟨v331,v334,v337,rfl,ho0,ho1,ho2,hb⟩;refine ⟨_,rfl,?_⟩;have HO332:=rlo ho0;have HO335:=rlo ho1;have HO338:=rlo ho2;replace BK325:=bkb BK325 hb;replace BK326:=bkb BK326 hb;replace BK327:=bkb BK327 hb;replace HB:=hbs hb)|((with_reducible refine gate_dst (N:=8) rfl ?_);refine box_ev (N:=8) (cs:=#[.int .i64 0,.int .i64 0,.slice none 0 0,.slice none 0 0,.slice none 0 0]) (t:=52) ?_;intro gb340 hg w21 hbox hb;have BK340:=Aside0.mk (hbox);have GW340 : Aside0 (w.heap.size ≤ gb340):=gsz hg;have GE340:=GW340;have NB325_340:=nbl BK325 hg;have NB340_325:=nbr BK325 hg;have NB326_340:=nbl BK326 hg;have NB340_326:=nbr BK326 hg;have NB327_340:=nbl BK327 hg;have NB340_327:=nbr BK327 hg;replace HO332:=rbw HO332 hb;replace HO335:=rbw HO335 hb;replace HO338:=rbw HO338 hb;replace BK325:=bkb BK325 hb;replace BK326:=bkb BK326 hb;replace BK327:=bkb BK327 hb;replace HB:=hbs hb;clear hb hbox hg;have hnb22:=NB340_325.out;have hnc22:=NB325_340.out;have hnb23:=NB340_326.out;have hnc23:=NB326_340.out;have hnb24:=NB340_327.out;have hnc24:=NB327_340.out;obtain ⟨_,_,_,_,_,_,_,_,_,_⟩:=cells5 BK340.out;obtain ⟨Ao26,co26,eo26⟩:=Kd.R_slice HO332.out;subst eo26;obtain ⟨Ao27,co27,eo27⟩:=Kd.R_slice HO335.out;subst eo27;obtain ⟨Ao28,co28,eo28⟩:=Kd.R_slice HO338.out;subst eo28;obtain ⟨_,_,_,_⟩:=cells2 BK326.out)|((with_reducible refine gate_callee (f:=45) rfl ?_);refine goesL_ (some 27) rfl rfl Try.func45 (by kernel_rfl) rfl #[.agg #[.int .i64 t328,.int .i64 t329,.slice Ao26 t330.length co26,.slice Ao27 t333.length co27,.slice Ao28 t336.length co28],.agg #[.slice A1_0 l1_0.length c1_0,.slice A1_1 l1_1.length c1_1],.int .i64 a2] rfl ga_ ?_;(with_reducible refine (water_ground_wet.calls t328 t329 _ _ t330 _ _ t333 _ _ t336 _ _ l1_0 _ _ l1_1 a2 true _ ?_ ?_ ?_ ?_ ?_ ?_ ?_ ?_ ?_ ?_ A6.out).mono ?_);exact rqs gb340 HO332 BK340;exact (Kd.R_reads' HO332.out).2.1;exact rqs gb340 HO335 BK340;exact (Kd.R_reads' HO335.out).2.1;exact rqs gb340 HO338 BK340;exact (Kd.R_reads' HO338.out).2.1;exact Kd.C_below HR1_0.out (hb_);exact HC1_0.out;exact Kd.C_below HR1_1.out (hb_);exact HC1_1.out;rintro e w30 ⟨rfl,hb⟩;refine ⟨_,rfl,?_⟩;replace HO332:=Aside0.mk (Kd.R_below (by (with_reducible repeat (first|apply Kd.R_alloc|apply Kd.R_drewN|apply Kd.R_drew));exact (Kd.R_mono (Kd.R_fars gb340 (Kd.R_types HO332.out BK340.out (by decide)) (fun _ hk => hk.2)) (fun _ h_ => h_.1))) hb);replace HO335:=Aside0.mk (Kd.R_below (by (with_reducible repeat (first|apply Kd.R_alloc|apply Kd.R_drewN|apply Kd.R_drew));exact (Kd.R_mono (Kd.R_fars gb340 (Kd.R_types HO335.out BK340.out (by decide)) (fun _ hk => hk.2)) (fun _ h_ => h_.1))) hb);replace HO338:=Aside0.mk (Kd.R_below (by (with_reducible repeat (first|apply Kd.R_alloc|apply Kd.R_drewN|apply Kd.R_drew));exact (Kd.R_mono (Kd.R_fars gb340 (Kd.R_types HO338.out BK340.out (by decide)) (fun _ hk => hk.2)) (fun _ h_ => h_.1))) hb);replace BK325:=Aside0.mk (blk_below (g:=gb325) (o:=.cells #[.int .i64 a0_0,.int .i64 a0_1,.slice A0_2 l0_2.length c0_2] 24 (0,0)) (by (with_reducible repeat (first|refine blk_drewN ?_ _|refine blk_drew ?_|refine blk_alloc ?_ _));refine blk_far ?_ NB325_340.out _;(with_reducible repeat (first|refine blk_drewN ?_ _|refine blk_drew ?_|refine blk_alloc ?_ _));refine blk_far ?_ NB325_340.out _;(with_reducible repeat (first|refine blk_drewN ?_ _|refine blk_drew ?_|refine blk_alloc ?_ _));refine blk_far ?_ NB325_340.out _;(with_reducible repeat (first|refine blk_drewN ?_ _|refine blk_drew ?_|refine blk_alloc ?_ _));refine blk_far ?_ NB325_340.out _;(with_reducible repeat (first|refine blk_drewN ?_ _|refine blk_drew ?_|refine blk_alloc ?_ _));refine blk_far ?_ NB325_340.out _;(with_reducible repeat (first|refine blk_drewN ?_ _|refine blk_drew ?_|refine blk_alloc ?_ _));exact BK325.out) hb);replace BK326:=Aside0.mk (blk_below (g:=gb326) (o:=.cells #[.slice A1_0 l1_0.length c1_0,.slice A1_1 l1_1.length c1_1] 26 (0,0)) (by (with_reducible repeat (first|refine blk_drewN ?_ _|refine blk_drew ?_|refine blk_alloc ?_ _));refine blk_far ?_ NB326_340.out _;(with_reducible repeat (first|refine blk_drewN ?_ _|refine blk_drew ?_|refine blk_alloc ?_ _));refine blk_far ?_ NB326_340.out _;(with_reducible repeat (first|refine blk_drewN ?_ _|refine blk_drew ?_|refine blk_alloc ?_ _));refine blk_far ?_ NB326_340.out _;(with_reducible repeat (first|refine blk_drewN ?_ _|refine blk_drew ?_|refine blk_alloc ?_ _));refine blk_far ?_ NB326_340.out _;(with_reducible repeat (first|refine blk_drewN ?_ _|refine blk_drew ?_|refine blk_alloc ?_ _));refine blk_far ?_ NB326_340.out _;(with_reducible repeat (first|refine blk_drewN ?_ _|refine blk_drew ?_|refine blk_alloc ?_ _));exact BK326.out) hb);replace BK327:=Aside0.mk (blk_below (g:=gb327) (o:=.cells #[.slice none 0 0,.slice none 0 0] 26 (0,0)) (by (with_reducible repeat (first|refine blk_drewN ?_ _|refine blk_drew ?_|refine blk_alloc ?_ _));refine blk_far ?_ NB327_340.out _;(with_reducible repeat (first|refine blk_drewN ?_ _|refine blk_drew ?_|refine blk_alloc ?_ _));refine blk_far ?_ NB327_340.out _;(with_reducible repeat (first|refine blk_drewN ?_ _|refine blk_drew ?_|refine blk_alloc ?_ _));refine blk_far ?_ NB327_340.out _;(with_reducible repeat (first|refine blk_drewN ?_ _|refine blk_drew ?_|refine blk_alloc ?_ _));refine blk_far ?_ NB327_340.out _;(with_reducible repeat (first|refine blk_drewN ?_ _|refine blk_drew ?_|refine blk_alloc ?_ _));refine blk_far ?_ NB327_340.out _;(with_reducible repeat (first|refine blk_drewN ?_ _|refine blk_drew ?_|refine blk_alloc ?_ _));exact BK327.out) hb);replace BK340:=Aside0.mk (blk_below (g:=gb340) (o:=.cells #[.int .i64 t328,.int .i64 t329,.slice Ao26 t330.length co26,.slice Ao27 t333.length co27,.slice Ao28 t336.length co28] 52 (0,0)) (by (with_reducible repeat (first|refine blk_drewN ?_ _|refine blk_drew ?_|refine blk_alloc ?_ _));exact blk_puts5 (blk_up BK340.out)) hb);replace HB:=hbs hb;obtain ⟨_,_,_,_⟩:=cells2 BK326.out)|((with_reducible refine gate_callee (f:=53) rfl ?_);refine goesL_ (some 31) rfl rfl Try.func53 (by kernel_rfl) rfl #[.agg #[.slice A1_0 l1_0.length c1_0,.slice A1_1 l1_1.length c1_1]] rfl ga_ ?_;(with_reducible refine (water_clone.calls _ _ l1_0 _ _ l1_1 t342 t345 _ ?_ ?_ ?_ ?_ A8.out).mono ?_);exact cq HR1_0;exact HC1_0.out;exact cq HR1_1;exact HC1_1.out;rintro e w32 ⟨v343,v346,rfl,ho0,ho1,hb⟩;refine ⟨_,rfl,?_⟩;have HO344:=Aside0.mk (Kd.R_lower (Kd.R_new' (Kd.R_new' ho0 (Kd.R_lt (Kd.R_up HO332.out))) (Kd.R_lt (Kd.R_up HO335.out))) (below_size (hb_)));have HO347:=Aside0.mk (Kd.R_lower (Kd.R_new' (Kd.R_new' ho1 (Kd.R_lt (Kd.R_up HO332.out))) (Kd.R_lt (Kd.R_up HO335.out))) (below_size (hb_)));replace HO332:=Aside0.mk (Kd.R_mono (Kd.R_told (Kd.R_told (Kd.R_old (Kd.R_up HO332.out) hb) (Kd.R_base ho0)) (Kd.R_base ho1)) (fun _ h_ => h_.1));replace HO335:=Aside0.mk (Kd.R_mono (Kd.R_told (Kd.R_told (Kd.R_old (Kd.R_up HO335.out) hb) (Kd.R_base ho0)) (Kd.R_base ho1)) (fun _ h_ => h_.1));replace HO338:=rbw HO338 hb;replace BK325:=bkb BK325 hb;replace BK326:=bkb BK326 hb;replace BK327:=bkb BK327 hb;replace BK340:=bkb BK340 hb;replace HB:=hbs hb)|((with_reducible refine gate_dst (N:=10) rfl ?_);refine box_ev (N:=10) (cs:=#[.slice none 0 0,.slice none 0 0]) (t:=26) ?_;intro gb348 hg w33 hbox hb;have BK348:=Aside0.mk (hbox);have GW348 : Aside0 (w.heap.size ≤ gb348):=gsz hg;have GE348:=GW348;have NB325_348:=nbl BK325 hg;have NB348_325:=nbr BK325 hg;have NB326_348:=nbl BK326 hg;have NB348_326:=nbr BK326 hg;have NB327_348:=nbl BK327 hg;have NB348_327:=nbr BK327 hg;have NB340_348:=nbl BK340 hg;have NB348_340:=nbr BK340 hg;replace HO332:=rbw HO332 hb;replace HO335:=rbw HO335 hb;replace HO338:=rbw HO338 hb;replace HO344:=rbw HO344 hb;replace HO347:=rbw HO347 hb;replace BK325:=bkb BK325 hb;replace BK326:=bkb BK326 hb;replace BK327:=bkb BK327 hb;replace BK340:=bkb BK340 hb;replace HB:=hbs hb;clear hb hbox hg;obtain ⟨Ao34,co34,eo34⟩:=Kd.R_slice HO344.out;subst eo34;have hnb35:=NB348_325.out;have hnc35:=NB325_348.out;have hnb36:=NB348_326.out;have hnc36:=NB326_348.out;have hnb37:=NB348_327.out;have hnc37:=NB327_348.out;have hnb38:=NB348_340.out;have hnc38:=NB340_348.out;obtain ⟨_,_,_,_⟩:=cells2 BK348.out;obtain ⟨Ao40,co40,eo40⟩:=Kd.R_slice HO347.out;subst eo40)|((with_reducible refine gate_store (t:=26) (p:=10) rfl ?_);refine store_event (t:=26) (p:=10) (v:=?vo_w41) (w1:=((w33.setCell ⟨gb348,0,none⟩ (.slice Ao34 t342.length co34)).setCell ⟨gb348,1,none⟩ (.slice Ao40 t345.length co40))) ?hg ?ho ?hn ?hr ?_;(case ho => rfl);(case hg => rfl);(case hn => rfl);(case hr => first|(go_simp;done)|(go_simp;rfl));intro w41 hw;have n0_ : Aside0 (Kd.R (Kd.int .i64) 3 w41 w.heap.size (fun k_ => some k_ ≠ (.slice Ao27 t333.length co27 : Value).ownBlock ∧ some k_ ≠ (.slice Ao34 t342.length co34 : Value).ownBlock ∧ some k_ ≠ (.slice Ao40 t345.length co40 : Value).ownBlock) (.slice Ao26 t330.length co26) t330):=⟨(by rw [hw];exact (by (with_reducible repeat (first|apply Kd.R_alloc|apply Kd.R_drewN|apply Kd.R_drew));exact Kd.R_mono (Kd.R_fars gb348 (Kd.R_types HO332.out BK348.out (by decide)) (fun _ hk => hk.2)) (fun _ hk => ⟨hk.1.1.1,⟨hk.1.1.2,hk.1.2⟩⟩)))⟩;have n1_ : Aside0 (Kd.R (Kd.int .i64) 3 w41 w.heap.size (fun k_ => some k_ ≠ (.slice Ao26 t330.length co26 : Value).ownBlock ∧ some k_ ≠ (.slice Ao34 t342.length co34 : Value).ownBlock ∧ some k_ ≠ (.slice Ao40 t345.length co40 : Value).ownBlock) (.slice Ao27 t333.length co27) t333):=⟨(by rw [hw];exact (by (with_reducible repeat (first|apply Kd.R_alloc|apply Kd.R_drewN|apply Kd.R_drew));exact Kd.R_mono (Kd.R_fars gb348 (Kd.R_types HO335.out BK348.out (by decide)) (fun _ hk => hk.2)) (fun _ hk => ⟨hk.1.1.1,⟨hk.1.1.2,hk.1.2⟩⟩)))⟩;have n2_ : Aside0 (Kd.R Kd.bool 4 w41 w.heap.size (fun _ => True) (.slice Ao28 t336.length co28) t336):=⟨(by rw [hw];exact (by (with_reducible repeat (first|apply Kd.R_alloc|apply Kd.R_drewN|apply Kd.R_drew));exact Kd.R_mono (Kd.R_fars gb348 (Kd.R_types HO338.out BK348.out (by decide)) (fun _ hk => hk.2)) (fun _ hk => trivial)))⟩;have n3_ : Aside0 (Kd.R (Kd.int .i64) 3 w41 w.heap.size (fun k_ => some k_ ≠ (.slice Ao26 t330.length co26 : Value).ownBlock ∧ some k_ ≠ (.slice Ao27 t333.length co27 : Value).ownBlock ∧ some k_ ≠ (.slice Ao40 t345.length co40 : Value).ownBlock) (.slice Ao34 t342.length co34) t342):=⟨(by rw [hw];exact (by (with_reducible repeat (first|apply Kd.R_alloc|apply Kd.R_drewN|apply Kd.R_drew));exact Kd.R_mono (Kd.R_fars gb348 (Kd.R_types HO344.out BK348.out (by decide)) (fun _ hk => hk.2)) (fun _ hk => ⟨hk.1.1.2,⟨hk.1.2,hk.1.1.1⟩⟩)))⟩;have n4_ : Aside0 (Kd.R (Kd.int .i64) 3 w41 w.heap.size (fun k_ => some k_ ≠ (.slice Ao26 t330.length co26 : Value).ownBlock ∧ some k_ ≠ (.slice Ao27 t333.length co27 : Value).ownBlock ∧ some k_ ≠ (.slice Ao34 t342.length co34 : Value).ownBlock) (.slice Ao40 t345.length co40) t345):=⟨(by rw [hw];exact (by (with_reducible repeat (first|apply Kd.R_alloc|apply Kd.R_drewN|apply Kd.R_drew));exact Kd.R_mono (Kd.R_fars gb348 (Kd.R_types HO347.out BK348.out (by decide)) (fun _ hk => hk.2)) (fun _ hk => ⟨hk.1.1.2,⟨hk.1.2,hk.1.1.1⟩⟩)))⟩;have n5_ : Aside0 (w41.heap[gb325]? = some (.cells #[.int .i64 a0_0,.int .i64 a0_1,.slice A0_2 l0_2.length c0_2] 24 (0,0))):=⟨(by rw [hw];exact (by (with_reducible repeat (first|refine blk_drewN ?_ _|refine blk_drew ?_|refine blk_alloc ?_ _));refine blk_far ?_ NB325_348.out _;(with_reducible repeat (first|refine blk_drewN ?_ _|refine blk_drew ?_|refine blk_alloc ?_ _));refine blk_far ?_ NB325_348.out _;(with_reducible repeat (first|refine blk_drewN ?_ _|refine blk_drew ?_|refine blk_alloc ?_ _));exact BK325.out))⟩;have n6_ : Aside0 (w41.heap[gb326]? = some (.cells #[.slice A1_0 l1_0.length c1_0,.slice A1_1 l1_1.length c1_1] 26 (0,0))):=⟨(by rw [hw];exact (by (with_reducible repeat (first|refine blk_drewN ?_ _|refine blk_drew ?_|refine blk_alloc ?_ _));refine blk_far ?_ NB326_348.out _;(with_reducible repeat (first|refine blk_drewN ?_ _|refine blk_drew ?_|refine blk_alloc ?_ _));refine blk_far ?_ NB326_348.out _;(with_reducible repeat (first|refine blk_drewN ?_ _|refine blk_drew ?_|refine blk_alloc ?_ _));exact BK326.out))⟩;have n7_ : Aside0 (w41.heap[gb327]? = some (.cells #[.slice none 0 0,.slice none 0 0] 26 (0,0))):=⟨(by rw [hw];exact (by (with_reducible repeat (first|refine blk_drewN ?_ _|refine blk_drew ?_|refine blk_alloc ?_ _));refine blk_far ?_ NB327_348.out _;(with_reducible repeat (first|refine blk_drewN ?_ _|refine blk_drew ?_|refine blk_alloc ?_ _));refine blk_far ?_ NB327_348.out _;(with_reducible repeat (first|refine blk_drewN ?_ _|refine blk_drew ?_|refine blk_alloc ?_ _));exact BK327.out))⟩;have n8_ : Aside0 (w41.heap[gb340]? = some (.cells #[.int .i64 t328,.int .i64 t329,.slice Ao26 t330.length co26,.slice Ao27 t333.length co27,.slice Ao28 t336.length co28] 52 (0,0))):=⟨(by rw [hw];exact (by (with_reducible repeat (first|refine blk_drewN ?_ _|refine blk_drew ?_|refine blk_alloc ?_ _));refine blk_far ?_ NB340_348.out _;(with_reducible repeat (first|refine blk_drewN ?_ _|refine blk_drew ?_|refine blk_alloc ?_ _));refine blk_far ?_ NB340_348.out _;(with_reducible repeat (first|refine blk_drewN ?_ _|refine blk_drew ?_|refine blk_alloc ?_ _));exact BK340.out))⟩;have n9_ : Aside0 (w41.heap[gb348]? = some (.cells #[.slice Ao34 t342.length co34,.slice Ao40 t345.length co40] 26 (0,0))):=⟨(by rw [hw];exact (by (with_reducible repeat (first|refine blk_drewN ?_ _|refine blk_drew ?_|refine blk_alloc ?_ _));exact blk_puts2 (blk_up BK348.out)))⟩;have n10_ : Aside0 (Below w.heap.size w w41):=⟨(by rw [hw];exact (hb_))⟩;clear hw;clear HO332;clear HO335;clear HO338;clear HO344;clear HO347;clear BK325;clear BK326;clear BK327;clear BK340;clear BK348;clear HB;have HO332:=n0_;have HO335:=n1_;have HO338:=n2_;have HO344:=n3_;have HO347:=n4_;have BK325:=n5_;have BK326:=n6_;have BK327:=n7_;have BK340:=n8_;have BK348:=n9_;have HB:=n10_;clear n0_ n1_ n2_ n3_ n4_ n5_ n6_ n7_ n8_ n9_ n10_;obtain ⟨_,_,_,_⟩:=cells2 BK348.out)|((with_reducible refine gate_callee (f:=58) rfl ?_);refine goesL_ (some 36) rfl rfl Try.func58 (by kernel_rfl) rfl #[.slice Ao40 t345.length co40,.int .i64 a2] rfl ga_ ?_;(with_reducible refine (slices_BinarySearch_int_int.calls k _ _ t345 a2 t349 true _ ?_ ?_ A9.out).mono ?_);exact Kd.C_up (Kd.R_reads' HO347.out).2.2;exact (Kd.R_reads' HO347.out).2.1;rintro e w' ⟨rfl,⟨nd,rfl⟩⟩;refine ⟨_,rfl,?_⟩;(try (rw [drewN_self w41];generalize hq_ : World.drewN w41 _ = w41;have n0_ : Aside0 (Kd.R (Kd.int .i64) 3 w41 w.heap.size (fun k_ => some k_ ≠ (.slice Ao27 t333.length co27 : Value).ownBlock ∧ some k_ ≠ (.slice Ao34 t342.length co34 : Value).ownBlock ∧ some k_ ≠ (.slice Ao40 t345.length co40 : Value).ownBlock) (.slice Ao26 t330.length co26) t330):=⟨by rw [← hq_];exact (Kd.R_up HO332.out)⟩;have n1_ : Aside0 (Kd.R (Kd.int .i64) 3 w41 w.heap.size (fun k_ => some k_ ≠ (.slice Ao26 t330.length co26 : Value).ownBlock ∧ some k_ ≠ (.slice Ao34 t342.length co34 : Value).ownBlock ∧ some k_ ≠ (.slice Ao40 t345.length co40 : Value).ownBlock) (.slice Ao27 t333.length co27) t333):=⟨by rw [← hq_];exact (Kd.R_up HO335.out)⟩;have n2_ : Aside0 (Kd.R Kd.bool 4 w41 w.heap.size (fun _ => True) (.slice Ao28 t336.length co28) t336):=⟨by rw [← hq_];exact (Kd.R_up HO338.out)⟩;have n3_ : Aside0 (Kd.R (Kd.int .i64) 3 w41 w.heap.size (fun k_ => some k_ ≠ (.slice Ao26 t330.length co26 : Value).ownBlock ∧ some k_ ≠ (.slice Ao27 t333.length co27 : Value).ownBlock ∧ some k_ ≠ (.slice Ao40 t345.length co40 : Value).ownBlock) (.slice Ao34 t342.length co34) t342):=⟨by rw [← hq_];exact (Kd.R_up HO344.out)⟩;have n4_ : Aside0 (Kd.R (Kd.int .i64) 3 w41 w.heap.size (fun k_ => some k_ ≠ (.slice Ao26 t330.length co26 : Value).ownBlock ∧ some k_ ≠ (.slice Ao27 t333.length co27 : Value).ownBlock ∧ some k_ ≠ (.slice Ao34 t342.length co34 : Value).ownBlock) (.slice Ao40 t345.length co40) t345):=⟨by rw [← hq_];exact (Kd.R_up HO347.out)⟩;have n5_ : Aside0 (w41.heap[gb325]? = some (.cells #[.int .i64 a0_0,.int .i64 a0_1,.slice A0_2 l0_2.length c0_2] 24 (0,0))):=⟨by rw [← hq_];exact (blk_up BK325.out)⟩;have n6_ : Aside0 (w41.heap[gb326]? = some (.cells #[.slice A1_0 l1_0.length c1_0,.slice A1_1 l1_1.length c1_1] 26 (0,0))):=⟨by rw [← hq_];exact (blk_up BK326.out)⟩;have n7_ : Aside0 (w41.heap[gb327]? = some (.cells #[.slice none 0 0,.slice none 0 0] 26 (0,0))):=⟨by rw [← hq_];exact (blk_up BK327.out)⟩;have n8_ : Aside0 (w41.heap[gb340]? = some (.cells #[.int .i64 t328,.int .i64 t329,.slice Ao26 t330.length co26,.slice Ao27 t333.length co27,.slice Ao28 t336.length co28] 52 (0,0))):=⟨by rw [← hq_];exact (blk_up BK340.out)⟩;have n9_ : Aside0 (w41.heap[gb348]? = some (.cells #[.slice Ao34 t342.length co34,.slice Ao40 t345.length co40] 26 (0,0))):=⟨by rw [← hq_];exact (blk_up BK348.out)⟩;have n10_ : Aside0 (Below w.heap.size w w41):=⟨by rw [← hq_];exact (hb_)⟩;clear HO332 HO335 HO338 HO344 HO347 BK325 BK326 BK327 BK340 BK348 HB hq_;have HO332:=n0_;have HO335:=n1_;have HO338:=n2_;have HO344:=n3_;have HO347:=n4_;have BK325:=n5_;have BK326:=n6_;have BK327:=n7_;have BK340:=n8_;have BK348:=n9_;have HB:=n10_;clear n0_ n1_ n2_ n3_ n4_ n5_ n6_ n7_ n8_ n9_ n10_;obtain ⟨_,_,_,_,_,_⟩:=cells3 BK325.out;obtain ⟨_,_,_,_⟩:=cells2 BK326.out;obtain ⟨_,_,_,_,_,_,_,_,_,_⟩:=cells5 BK340.out;obtain ⟨_,_,_,_⟩:=cells2 BK348.out)))|((with_reducible refine gate_callee (f:=59) rfl ?_);refine goesL_ (some 45) rfl rfl Try.func59 (by kernel_rfl) rfl #[.slice Ao40 t345.length co40,.int .i64 t349,.int .i64 (wrap64 (t349 + 1))] rfl ga_ ?_;(with_reducible refine (slices_Delete_int_int.calls (fun k_ => some k_ = (.slice Ao40 t345.length co40 : Value).ownBlock) (.slice Ao40 t345.length co40) t345 t349 (wrap64 (t349 + 1)) t351 w _ ?_ ?_ A11.out).mono ?_);(focus (repeat (first|(with_reducible first|exact HB.out|apply below_alloc|apply pw_below_drewN|apply below_drew1|refine below_set ?_ GE325.out|refine below_set ?_ GE326.out|refine below_set ?_ GE327.out|refine below_set ?_ GE340.out|refine below_set ?_ GE348.out)|exact HB.out)));exact Kd.R_tight rfl HO347.out;rintro e w43 ⟨v352,rfl,ho0,hb,hkp⟩;refine ⟨_,rfl,?_⟩;have HO353:=Aside0.mk (Kd.R_mono (ok':=fun k_ => some k_ ≠ (.slice Ao26 t330.length co26 : Value).ownBlock ∧ some k_ ≠ (.slice Ao27 t333.length co27 : Value).ownBlock ∧ some k_ ≠ (.slice Ao34 t342.length co34 : Value).ownBlock) ho0 (fun k_ hk_ => ⟨Or.elim hk_ (fun hs_ => fun e_ => (((HO332.out).1 k_ e_.symm).2.2) hs_) (fun hn_ => (Kd.fresh' (Kd.R_lt (Kd.R_up HO332.out)) k_ hn_)),Or.elim hk_ (fun hs_ => fun e_ => (((HO335.out).1 k_ e_.symm).2.2) hs_) (fun hn_ => (Kd.fresh' (Kd.R_lt (Kd.R_up HO335.out)) k_ hn_)),Or.elim hk_ (fun hs_ => fun e_ => (((HO344.out).1 k_ e_.symm).2.2) hs_) (fun hn_ => (Kd.fresh' (Kd.R_lt (Kd.R_up HO344.out)) k_ hn_))⟩));replace BK325:=Aside0.mk (blk_kept (blk_up BK325.out) hkp (fun hs_ => (fun e_ => (Kd.R_ne HO347.out BK325.out (by decide)) e_) hs_));replace BK326:=Aside0.mk (blk_kept (blk_up BK326.out) hkp (fun hs_ => (fun e_ => (Kd.R_ne HO347.out BK326.out (by decide)) e_) hs_));replace BK327:=Aside0.mk (blk_kept (blk_up BK327.out) hkp (fun hs_ => (fun e_ => (Kd.R_ne HO347.out BK327.out (by decide)) e_) hs_));replace HO332:=Aside0.mk (Kd.R_mono (ok':=fun k_ => some k_ ≠ (.slice Ao27 t333.length co27 : Value).ownBlock ∧ some k_ ≠ (.slice Ao34 t342.length co34 : Value).ownBlock ∧ some k_ ≠ (v352 : Value).ownBlock) (Kd.R_keptB (HO332.out) hkp (fun k_ hk_ hs_ => (hk_.2.2) hs_)) (fun k_ hk_ => ⟨hk_.1.1,hk_.1.2.1,fun e_ => Or.elim (ho0.1 k_ e_.symm) (fun hs_ => hk_.2.1 hs_) (fun hn_ => Nat.not_le.2 hk_.2.2 hn_)⟩));replace HO335:=Aside0.mk (Kd.R_mono (ok':=fun k_ => some k_ ≠ (.slice Ao26 t330.length co26 : Value).ownBlock ∧ some k_ ≠ (.slice Ao34 t342.length co34 : Value).ownBlock ∧ some k_ ≠ (v352 : Value).ownBlock) (Kd.R_keptB (HO335.out) hkp (fun k_ hk_ hs_ => (hk_.2.2) hs_)) (fun k_ hk_ => ⟨hk_.1.1,hk_.1.2.1,fun e_ => Or.elim (ho0.1 k_ e_.symm) (fun hs_ => hk_.2.1 hs_) (fun hn_ => Nat.not_le.2 hk_.2.2 hn_)⟩));replace HO338:=Aside0.mk (Kd.R_mono (ok':=fun k_ => True) (Kd.R_keptB ((Kd.R_apart' HO338.out (Kd.R_typed HO347.out) (by decide))) hkp (fun k_ hk_ hs_ => (hk_.2) hs_)) (fun k_ hk_ => trivial));replace BK340:=Aside0.mk (blk_kept (blk_up BK340.out) hkp (fun hs_ => (fun e_ => (Kd.R_ne HO347.out BK340.out (by decide)) e_) hs_));replace HO344:=Aside0.mk (Kd.R_mono (ok':=fun k_ => some k_ ≠ (.slice Ao26 t330.length co26 : Value).ownBlock ∧ some k_ ≠ (.slice Ao27 t333.length co27 : Value).ownBlock ∧ some k_ ≠ (v352 : Value).ownBlock) (Kd.R_keptB (HO344.out) hkp (fun k_ hk_ hs_ => (hk_.2.2) hs_)) (fun k_ hk_ => ⟨hk_.1.1,hk_.1.2.1,fun e_ => Or.elim (ho0.1 k_ e_.symm) (fun hs_ => hk_.2.1 hs_) (fun hn_ => Nat.not_le.2 hk_.2.2 hn_)⟩));replace BK348:=Aside0.mk (blk_kept (blk_up BK348.out) hkp (fun hs_ => (fun e_ => (Kd.R_ne HO347.out BK348.out (by decide)) e_) hs_));replace HB:=Aside0.mk (hb);clear HO347;obtain ⟨Ao44,co44,eo44⟩:=Kd.R_slice HO353.out;subst eo44;obtain ⟨_,_,_,_⟩:=cells2 BK348.out;obtain ⟨_,_,_,_⟩:=cells2 BK327.out))
   refine bodyPost_ret (results_ct rfl _ _ gb327 26 #[.slice Ao34 t342.length co34,.slice Ao44 t351.length co44] (0,0) _ rfl (by (with_reducible repeat (first|refine blk_drewN ?_ _|refine blk_drew ?_|refine blk_alloc ?_ _));refine blk_put (cs:=#[.slice Ao34 t342.length co34,.slice none 0 0]) ?_ 1 _ rfl;(with_reducible repeat (first|refine blk_drewN ?_ _|refine blk_drew ?_|refine blk_alloc ?_ _));refine blk_put (cs:=#[.slice none 0 0,.slice none 0 0]) ?_ 0 _ rfl;(with_reducible repeat (first|refine blk_drewN ?_ _|refine blk_drew ?_|refine blk_alloc ?_ _));refine blk_far ?_ NB327_348.out _;(with_reducible repeat (first|refine blk_drewN ?_ _|refine blk_drew ?_|refine blk_alloc ?_ _));exact BK327.out) Try.underlying26 rfl (by kernel_rfl)) rfl ?_
   exact ⟨_,_,er_,by (with_reducible repeat (first|apply Kd.R_alloc|apply Kd.R_drewN|apply Kd.R_drew));exact Kd.R_mono (Kd.R_fars gb327 (Kd.R_far (p:=⟨gb348,1,none⟩) (Kd.R_types (Kd.R_types HO344.out BK348.out (by decide)) BK327.out (by decide)) (fun _ hk => hk.1.2) (.slice Ao44 t351.length co44)) (fun _ hk => hk.2)) (fun _ hk => hk.1.1.2.2),by (with_reducible repeat (first|apply Kd.R_alloc|apply Kd.R_drewN|apply Kd.R_drew));exact Kd.R_mono (Kd.R_fars gb327 (Kd.R_far (p:=⟨gb348,1,none⟩) (Kd.R_types (Kd.R_types HO353.out BK348.out (by decide)) BK327.out (by decide)) (fun _ hk => hk.1.2) (.slice Ao44 t351.length co44)) (fun _ hk => hk.2)) (fun _ hk => hk.1.1.2.2),hb_⟩
  ·replace c10:=Bool.eq_false_iff.mpr c10
   subst c10
   have H1 : ((slices_Insert_int_int.f t345 t349 (([a2] : List Int))).bind fun t357 => (some (t342,t357,0))) = some (r1,r2,r3):=by rw [if_neg (show ¬ (false = true) by decide)] at H;exact H
   clear H
   have H:=H1
   clear H1
   obtain ⟨y354,hy354⟩ : ∃ y_ : List Int,y_ = (([a2] : List Int)):=⟨_,rfl⟩
   replace H : ((slices_Insert_int_int.f t345 t349 y354).bind fun t357 => (some (t342,t357,0))) = some (r1,r2,r3):=by first|(rw [hy354];with_reducible exact H)|(have H2_:=(Option.bind_some _ _).symm.trans H;rw [hy354];with_reducible exact H2_)|(have H2_:=(Option.bind_some _ _).symm.trans H;with_reducible exact H2_)|with_reducible exact H|(rw [hy354];exact H)|exact H
   have Ny354:=Aside0.mk hy354
   clear hy354
   replace H:=Option.bind_eq_some_iff.mp H
   obtain ⟨t357,A470,H⟩:=H
   replace H : (some (t342,t357,0)) = some (r1,r2,r3):=H
   have A47:=Aside0.mk A470
   clear A470
   simp only [Option.some.injEq,Prod.mk.injEq] at H
   obtain ⟨rfl,rfl,rfl⟩:=H
   go_enter Try.func37,Try.ntmps37
   go_wp2_with (first|((with_reducible refine gate_dst (N:=3) rfl ?_);refine box_ev (N:=3) (cs:=#[.int .i64 a0_0,.int .i64 a0_1,.slice A0_2 l0_2.length c0_2]) (t:=24) ?_;intro gb325 hg w48 hbox hb;have BK325:=Aside0.mk (hbox);have GW325 : Aside0 (w.heap.size ≤ gb325):=gsz hg;have GE325:=GW325;replace HB:=hbs hb;clear hb hbox hg)|((with_reducible refine gate_dst (N:=4) rfl ?_);refine box_ev (N:=4) (cs:=#[.slice A1_0 l1_0.length c1_0,.slice A1_1 l1_1.length c1_1]) (t:=26) ?_;intro gb326 hg w49 hbox hb;have BK326:=Aside0.mk (hbox);have GW326 : Aside0 (w.heap.size ≤ gb326):=gsz hg;have GE326:=GW326;have NB325_326:=nbl BK325 hg;have NB326_325:=nbr BK325 hg;replace BK325:=bkb BK325 hb;replace HB:=hbs hb;clear hb hbox hg)|((with_reducible refine gate_dst (N:=6) rfl ?_);refine box_ev (N:=6) (cs:=#[.slice none 0 0,.slice none 0 0]) (t:=26) ?_;intro gb327 hg w50 hbox hb;have BK327:=Aside0.mk (hbox);have GW327 : Aside0 (w.heap.size ≤ gb327):=gsz hg;have GE327:=GW327;have NB325_327:=nbl BK325 hg;have NB327_325:=nbr BK325 hg;have NB326_327:=nbl BK326 hg;have NB327_326:=nbr BK326 hg;replace BK325:=bkb BK325 hb;replace BK326:=bkb BK326 hb;replace HB:=hbs hb;clear hb hbox hg;have hnb51:=NB325_326.out;have hnc51:=NB326_325.out;have hnb52:=NB325_327.out;have hnc52:=NB327_325.out;obtain ⟨_,_,_,_,_,_⟩:=cells3 BK325.out;have hnb54:=NB326_327.out;have hnc54:=NB327_326.out;obtain ⟨_,_,_,_⟩:=cells2 BK326.out)|((with_reducible refine gate_callee (f:=40) rfl ?_);refine goesL_ (some 17) rfl rfl Try.func40 (by kernel_rfl) rfl #[.agg #[.int .i64 a0_0,.int .i64 a0_1,.slice A0_2 l0_2.length c0_2],.agg #[.slice A1_0 l1_0.length c1_0,.slice A1_1 l1_1.length c1_1],.int .i64 a2] rfl ga_ ?_;(with_reducible refine (water_at.calls k a0_0 a0_1 _ _ l0_2 _ _ l1_0 _ _ l1_1 a2 t328 t329 t330 t333 t336 t339 _ ?_ ?_ ?_ ?_ ?_ ?_ A4.out).mono ?_);exact cq HR0_2;exact HC0_2.out;exact cq HR1_0;exact HC1_0.out;exact cq HR1_1;exact HC1_1.out;rintro e w56 ⟨v331,v334,v337,rfl,ho0,ho1,ho2,hb⟩;refine ⟨_,rfl,?_⟩;have HO332:=rlo ho0;have HO335:=rlo ho1;have HO338:=rlo ho2;replace BK325:=bkb BK325 hb;replace BK326:=bkb BK326 hb;replace BK327:=bkb BK327 hb;replace HB:=hbs hb)|((with_reducible refine gate_dst (N:=8) rfl ?_);refine box_ev (N:=8) (cs:=#[.int .i64 0,.int .i64 0,.slice none 0 0,.slice none 0 0,.slice none 0 0]) (t:=52) ?_;intro gb340 hg w57 hbox hb;have BK340:=Aside0.mk (hbox);have GW340 : Aside0 (w.heap.size ≤ gb340):=gsz hg;have GE340:=GW340;have NB325_340:=nbl BK325 hg;have NB340_325:=nbr BK325 hg;have NB326_340:=nbl BK326 hg;have NB340_326:=nbr BK326 hg;have NB327_340:=nbl BK327 hg;have NB340_327:=nbr BK327 hg;replace HO332:=rbw HO332 hb;replace HO335:=rbw HO335 hb;replace HO338:=rbw HO338 hb;replace BK325:=bkb BK325 hb;replace BK326:=bkb BK326 hb;replace BK327:=bkb BK327 hb;replace HB:=hbs hb;clear hb hbox hg;have hnb58:=NB340_325.out;have hnc58:=NB325_340.out;have hnb59:=NB340_326.out;have hnc59:=NB326_340.out;have hnb60:=NB340_327.out;have hnc60:=NB327_340.out;obtain ⟨_,_,_,_,_,_,_,_,_,_⟩:=cells5 BK340.out;obtain ⟨Ao62,co62,eo62⟩:=Kd.R_slice HO332.out;subst eo62;obtain ⟨Ao63,co63,eo63⟩:=Kd.R_slice HO335.out;subst eo63;obtain ⟨Ao64,co64,eo64⟩:=Kd.R_slice HO338.out;subst eo64;obtain ⟨_,_,_,_⟩:=cells2 BK326.out)|((with_reducible refine gate_callee (f:=45) rfl ?_);refine goesL_ (some 27) rfl rfl Try.func45 (by kernel_rfl) rfl #[.agg #[.int .i64 t328,.int .i64 t329,.slice Ao62 t330.length co62,.slice Ao63 t333.length co63,.slice Ao64 t336.length co64],.agg #[.slice A1_0 l1_0.length c1_0,.slice A1_1 l1_1.length c1_1],.int .i64 a2] rfl ga_ ?_;(with_reducible refine (water_ground_wet.calls t328 t329 _ _ t330 _ _ t333 _ _ t336 _ _ l1_0 _ _ l1_1 a2 true _ ?_ ?_ ?_ ?_ ?_ ?_ ?_ ?_ ?_ ?_ A6.out).mono ?_);exact rqs gb340 HO332 BK340;exact (Kd.R_reads' HO332.out).2.1;exact rqs gb340 HO335 BK340;exact (Kd.R_reads' HO335.out).2.1;exact rqs gb340 HO338 BK340;exact (Kd.R_reads' HO338.out).2.1;exact Kd.C_below HR1_0.out (hb_);exact HC1_0.out;exact Kd.C_below HR1_1.out (hb_);exact HC1_1.out;rintro e w66 ⟨rfl,hb⟩;refine ⟨_,rfl,?_⟩;replace HO332:=Aside0.mk (Kd.R_below (by (with_reducible repeat (first|apply Kd.R_alloc|apply Kd.R_drewN|apply Kd.R_drew));exact (Kd.R_mono (Kd.R_fars gb340 (Kd.R_types HO332.out BK340.out (by decide)) (fun _ hk => hk.2)) (fun _ h_ => h_.1))) hb);replace HO335:=Aside0.mk (Kd.R_below (by (with_reducible repeat (first|apply Kd.R_alloc|apply Kd.R_drewN|apply Kd.R_drew));exact (Kd.R_mono (Kd.R_fars gb340 (Kd.R_types HO335.out BK340.out (by decide)) (fun _ hk => hk.2)) (fun _ h_ => h_.1))) hb);replace HO338:=Aside0.mk (Kd.R_below (by (with_reducible repeat (first|apply Kd.R_alloc|apply Kd.R_drewN|apply Kd.R_drew));exact (Kd.R_mono (Kd.R_fars gb340 (Kd.R_types HO338.out BK340.out (by decide)) (fun _ hk => hk.2)) (fun _ h_ => h_.1))) hb);replace BK325:=Aside0.mk (blk_below (g:=gb325) (o:=.cells #[.int .i64 a0_0,.int .i64 a0_1,.slice A0_2 l0_2.length c0_2] 24 (0,0)) (by (with_reducible repeat (first|refine blk_drewN ?_ _|refine blk_drew ?_|refine blk_alloc ?_ _));refine blk_far ?_ NB325_340.out _;(with_reducible repeat (first|refine blk_drewN ?_ _|refine blk_drew ?_|refine blk_alloc ?_ _));refine blk_far ?_ NB325_340.out _;(with_reducible repeat (first|refine blk_drewN ?_ _|refine blk_drew ?_|refine blk_alloc ?_ _));refine blk_far ?_ NB325_340.out _;(with_reducible repeat (first|refine blk_drewN ?_ _|refine blk_drew ?_|refine blk_alloc ?_ _));refine blk_far ?_ NB325_340.out _;(with_reducible repeat (first|refine blk_drewN ?_ _|refine blk_drew ?_|refine blk_alloc ?_ _));refine blk_far ?_ NB325_340.out _;(with_reducible repeat (first|refine blk_drewN ?_ _|refine blk_drew ?_|refine blk_alloc ?_ _));exact BK325.out) hb);replace BK326:=Aside0.mk (blk_below (g:=gb326) (o:=.cells #[.slice A1_0 l1_0.length c1_0,.slice A1_1 l1_1.length c1_1] 26 (0,0)) (by (with_reducible repeat (first|refine blk_drewN ?_ _|refine blk_drew ?_|refine blk_alloc ?_ _));refine blk_far ?_ NB326_340.out _;(with_reducible repeat (first|refine blk_drewN ?_ _|refine blk_drew ?_|refine blk_alloc ?_ _));refine blk_far ?_ NB326_340.out _;(with_reducible repeat (first|refine blk_drewN ?_ _|refine blk_drew ?_|refine blk_alloc ?_ _));refine blk_far ?_ NB326_340.out _;(with_reducible repeat (first|refine blk_drewN ?_ _|refine blk_drew ?_|refine blk_alloc ?_ _));refine blk_far ?_ NB326_340.out _;(with_reducible repeat (first|refine blk_drewN ?_ _|refine blk_drew ?_|refine blk_alloc ?_ _));refine blk_far ?_ NB326_340.out _;(with_reducible repeat (first|refine blk_drewN ?_ _|refine blk_drew ?_|refine blk_alloc ?_ _));exact BK326.out) hb);replace BK327:=Aside0.mk (blk_below (g:=gb327) (o:=.cells #[.slice none 0 0,.slice none 0 0] 26 (0,0)) (by (with_reducible repeat (first|refine blk_drewN ?_ _|refine blk_drew ?_|refine blk_alloc ?_ _));refine blk_far ?_ NB327_340.out _;(with_reducible repeat (first|refine blk_drewN ?_ _|refine blk_drew ?_|refine blk_alloc ?_ _));refine blk_far ?_ NB327_340.out _;(with_reducible repeat (first|refine blk_drewN ?_ _|refine blk_drew ?_|refine blk_alloc ?_ _));refine blk_far ?_ NB327_340.out _;(with_reducible repeat (first|refine blk_drewN ?_ _|refine blk_drew ?_|refine blk_alloc ?_ _));refine blk_far ?_ NB327_340.out _;(with_reducible repeat (first|refine blk_drewN ?_ _|refine blk_drew ?_|refine blk_alloc ?_ _));refine blk_far ?_ NB327_340.out _;(with_reducible repeat (first|refine blk_drewN ?_ _|refine blk_drew ?_|refine blk_alloc ?_ _));exact BK327.out) hb);replace BK340:=Aside0.mk (blk_below (g:=gb340) (o:=.cells #[.int .i64 t328,.int .i64 t329,.slice Ao62 t330.length co62,.slice Ao63 t333.length co63,.slice Ao64 t336.length co64] 52 (0,0)) (by (with_reducible repeat (first|refine blk_drewN ?_ _|refine blk_drew ?_|refine blk_alloc ?_ _));exact blk_puts5 (blk_up BK340.out)) hb);replace HB:=hbs hb;obtain ⟨_,_,_,_⟩:=cells2 BK326.out)|((with_reducible refine gate_callee (f:=53) rfl ?_);refine goesL_ (some 31) rfl rfl Try.func53 (by kernel_rfl) rfl #[.agg #[.slice A1_0 l1_0.length c1_0,.slice A1_1 l1_1.length c1_1]] rfl ga_ ?_;(with_reducible refine (water_clone.calls _ _ l1_0 _ _ l1_1 t342 t345 _ ?_ ?_ ?_ ?_ A8.out).mono ?_);exact cq HR1_0;exact HC1_0.out;exact cq HR1_1;exact HC1_1.out;rintro e w68 ⟨v343,v346,rfl,ho0,ho1,hb⟩;refine ⟨_,rfl,?_⟩;have HO344:=Aside0.mk (Kd.R_lower (Kd.R_new' (Kd.R_new' ho0 (Kd.R_lt (Kd.R_up HO332.out))) (Kd.R_lt (Kd.R_up HO335.out))) (below_size (hb_)));have HO347:=Aside0.mk (Kd.R_lower (Kd.R_new' (Kd.R_new' ho1 (Kd.R_lt (Kd.R_up HO332.out))) (Kd.R_lt (Kd.R_up HO335.out))) (below_size (hb_)));replace HO332:=Aside0.mk (Kd.R_mono (Kd.R_told (Kd.R_told (Kd.R_old (Kd.R_up HO332.out) hb) (Kd.R_base ho0)) (Kd.R_base ho1)) (fun _ h_ => h_.1));replace HO335:=Aside0.mk (Kd.R_mono (Kd.R_told (Kd.R_told (Kd.R_old (Kd.R_up HO335.out) hb) (Kd.R_base ho0)) (Kd.R_base ho1)) (fun _ h_ => h_.1));replace HO338:=rbw HO338 hb;replace BK325:=bkb BK325 hb;replace BK326:=bkb BK326 hb;replace BK327:=bkb BK327 hb;replace BK340:=bkb BK340 hb;replace HB:=hbs hb)|((with_reducible refine gate_dst (N:=10) rfl ?_);refine box_ev (N:=10) (cs:=#[.slice none 0 0,.slice none 0 0]) (t:=26) ?_;intro gb348 hg w69 hbox hb;have BK348:=Aside0.mk (hbox);have GW348 : Aside0 (w.heap.size ≤ gb348):=gsz hg;have GE348:=GW348;have NB325_348:=nbl BK325 hg;have NB348_325:=nbr BK325 hg;have NB326_348:=nbl BK326 hg;have NB348_326:=nbr BK326 hg;have NB327_348:=nbl BK327 hg;have NB348_327:=nbr BK327 hg;have NB340_348:=nbl BK340 hg;have NB348_340:=nbr BK340 hg;replace HO332:=rbw HO332 hb;replace HO335:=rbw HO335 hb;replace HO338:=rbw HO338 hb;replace HO344:=rbw HO344 hb;replace HO347:=rbw HO347 hb;replace BK325:=bkb BK325 hb;replace BK326:=bkb BK326 hb;replace BK327:=bkb BK327 hb;replace BK340:=bkb BK340 hb;replace HB:=hbs hb;clear hb hbox hg;obtain ⟨Ao70,co70,eo70⟩:=Kd.R_slice HO344.out;subst eo70;have hnb71:=NB348_325.out;have hnc71:=NB325_348.out;have hnb72:=NB348_326.out;have hnc72:=NB326_348.out;have hnb73:=NB348_327.out;have hnc73:=NB327_348.out;have hnb74:=NB348_340.out;have hnc74:=NB340_348.out;obtain ⟨_,_,_,_⟩:=cells2 BK348.out;obtain ⟨Ao76,co76,eo76⟩:=Kd.R_slice HO347.out;subst eo76)|((with_reducible refine gate_callee (f:=58) rfl ?_);refine goesL_ (some 36) rfl rfl Try.func58 (by kernel_rfl) rfl #[.slice Ao76 t345.length co76,.int .i64 a2] rfl ga_ ?_;(with_reducible refine (slices_BinarySearch_int_int.calls k _ _ t345 a2 t349 false _ ?_ ?_ A9.out).mono ?_);exact rqs gb348 HO347 BK348;exact (Kd.R_reads' HO347.out).2.1;rintro e w' ⟨rfl,⟨nd,rfl⟩⟩;refine ⟨_,rfl,?_⟩)|((with_reducible refine gate_dst (N:=51) rfl ?_);refine Kd.R_lit (Kd.int .i64) _ 3 ?hg (N:=51) ?hd (xs:=([a2] : List Int)) (inner:=[.int .i64 a2]) (ok:=fun _ => True) (okp:=fun _ => True) ?hr ?hp (fun _ hk => hk) trivial (Below.refl _ _) (Nat.le_refl _) (by simp) ?_;(case hd => rfl);(case hg => rfl);(case hr => first|(go_simp;done)|(go_simp;rfl));(case hp => exact (Reps.one (show Kd.M (Kd.int .i64) _ _ _ a2 [.int .i64 a2] from rfl) (Reps.none _ _)));intro v355 w77 ho78 hb hg_ hnew_;clear hg_ hnew_;(first|rw [← Ny354.out] at ho78|(simp only [Int.reduceToNat] at ho78;rw [← Ny354.out] at ho78));have HO356:=Aside0.mk (Kd.R_lower (Kd.R_new' (Kd.R_new' (Kd.R_new' (Kd.R_new' ho78 (Kd.R_lt (by (with_reducible repeat (first|apply Kd.R_alloc|apply Kd.R_drewN|apply Kd.R_drew));exact (Kd.R_mono (Kd.R_fars gb348 (Kd.R_types HO332.out BK348.out (by decide)) (fun _ hk => hk.2)) (fun _ h_ => h_.1))))) (Kd.R_lt (by (with_reducible repeat (first|apply Kd.R_alloc|apply Kd.R_drewN|apply Kd.R_drew));exact (Kd.R_mono (Kd.R_fars gb348 (Kd.R_types HO335.out BK348.out (by decide)) (fun _ hk => hk.2)) (fun _ h_ => h_.1))))) (Kd.R_lt (by (with_reducible repeat (first|apply Kd.R_alloc|apply Kd.R_drewN|apply Kd.R_drew));exact (Kd.R_mono (Kd.R_fars gb348 (Kd.R_types HO344.out BK348.out (by decide)) (fun _ hk => hk.2)) (fun _ h_ => h_.1))))) (Kd.R_lt (by (with_reducible repeat (first|apply Kd.R_alloc|apply Kd.R_drewN|apply Kd.R_drew));exact (Kd.R_mono (Kd.R_fars gb348 (Kd.R_types HO347.out BK348.out (by decide)) (fun _ hk => hk.2)) (fun _ h_ => h_.1))))) (below_size (hb_)));replace HO332:=Aside0.mk (Kd.R_elder' (by (with_reducible repeat (first|apply Kd.R_alloc|apply Kd.R_drewN|apply Kd.R_drew));exact (Kd.R_mono (Kd.R_fars gb348 (Kd.R_types HO332.out BK348.out (by decide)) (fun _ hk => hk.2)) (fun _ h_ => h_.1))) (Kd.R_base ho78) hb);replace HO335:=Aside0.mk (Kd.R_elder' (by (with_reducible repeat (first|apply Kd.R_alloc|apply Kd.R_drewN|apply Kd.R_drew));exact (Kd.R_mono (Kd.R_fars gb348 (Kd.R_types HO335.out BK348.out (by decide)) (fun _ hk => hk.2)) (fun _ h_ => h_.1))) (Kd.R_base ho78) hb);replace HO338:=Aside0.mk (Kd.R_below (by (with_reducible repeat (first|apply Kd.R_alloc|apply Kd.R_drewN|apply Kd.R_drew));exact (Kd.R_mono (Kd.R_fars gb348 (Kd.R_types HO338.out BK348.out (by decide)) (fun _ hk => hk.2)) (fun _ h_ => h_.1))) hb);replace HO344:=Aside0.mk (Kd.R_elder' (by (with_reducible repeat (first|apply Kd.R_alloc|apply Kd.R_drewN|apply Kd.R_drew));exact (Kd.R_mono (Kd.R_fars gb348 (Kd.R_types HO344.out BK348.out (by decide)) (fun _ hk => hk.2)) (fun _ h_ => h_.1))) (Kd.R_base ho78) hb);replace HO347:=Aside0.mk (Kd.R_elder' (by (with_reducible repeat (first|apply Kd.R_alloc|apply Kd.R_drewN|apply Kd.R_drew));exact (Kd.R_mono (Kd.R_fars gb348 (Kd.R_types HO347.out BK348.out (by decide)) (fun _ hk => hk.2)) (fun _ h_ => h_.1))) (Kd.R_base ho78) hb);replace BK325:=Aside0.mk (blk_below (g:=gb325) (o:=.cells #[.int .i64 a0_0,.int .i64 a0_1,.slice A0_2 l0_2.length c0_2] 24 (0,0)) (by (with_reducible repeat (first|refine blk_drewN ?_ _|refine blk_drew ?_|refine blk_alloc ?_ _));refine blk_far ?_ NB325_348.out _;(with_reducible repeat (first|refine blk_drewN ?_ _|refine blk_drew ?_|refine blk_alloc ?_ _));refine blk_far ?_ NB325_348.out _;(with_reducible repeat (first|refine blk_drewN ?_ _|refine blk_drew ?_|refine blk_alloc ?_ _));exact BK325.out) hb);replace BK326:=Aside0.mk (blk_below (g:=gb326) (o:=.cells #[.slice A1_0 l1_0.length c1_0,.slice A1_1 l1_1.length c1_1] 26 (0,0)) (by (with_reducible repeat (first|refine blk_drewN ?_ _|refine blk_drew ?_|refine blk_alloc ?_ _));refine blk_far ?_ NB326_348.out _;(with_reducible repeat (first|refine blk_drewN ?_ _|refine blk_drew ?_|refine blk_alloc ?_ _));refine blk_far ?_ NB326_348.out _;(with_reducible repeat (first|refine blk_drewN ?_ _|refine blk_drew ?_|refine blk_alloc ?_ _));exact BK326.out) hb);replace BK327:=Aside0.mk (blk_below (g:=gb327) (o:=.cells #[.slice none 0 0,.slice none 0 0] 26 (0,0)) (by (with_reducible repeat (first|refine blk_drewN ?_ _|refine blk_drew ?_|refine blk_alloc ?_ _));refine blk_far ?_ NB327_348.out _;(with_reducible repeat (first|refine blk_drewN ?_ _|refine blk_drew ?_|refine blk_alloc ?_ _));refine blk_far ?_ NB327_348.out _;(with_reducible repeat (first|refine blk_drewN ?_ _|refine blk_drew ?_|refine blk_alloc ?_ _));exact BK327.out) hb);replace BK340:=Aside0.mk (blk_below (g:=gb340) (o:=.cells #[.int .i64 t328,.int .i64 t329,.slice Ao62 t330.length co62,.slice Ao63 t333.length co63,.slice Ao64 t336.length co64] 52 (0,0)) (by (with_reducible repeat (first|refine blk_drewN ?_ _|refine blk_drew ?_|refine blk_alloc ?_ _));refine blk_far ?_ NB340_348.out _;(with_reducible repeat (first|refine blk_drewN ?_ _|refine blk_drew ?_|refine blk_alloc ?_ _));refine blk_far ?_ NB340_348.out _;(with_reducible repeat (first|refine blk_drewN ?_ _|refine blk_drew ?_|refine blk_alloc ?_ _));exact BK340.out) hb);replace BK348:=Aside0.mk (blk_below (g:=gb348) (o:=.cells #[.slice Ao70 t342.length co70,.slice Ao76 t345.length co76] 26 (0,0)) (by (with_reducible repeat (first|refine blk_drewN ?_ _|refine blk_drew ?_|refine blk_alloc ?_ _));exact blk_puts2 (blk_up BK348.out)) hb);replace HB:=hbs hb;clear hb ho78;obtain ⟨Ao79,co79,eo79⟩:=Kd.R_slice HO356.out;subst eo79)|((with_reducible refine gate_callee (f:=60) rfl ?_);refine goesL_ (some 52) rfl rfl Try.func60 (by kernel_rfl) rfl #[.slice Ao76 t345.length co76,.int .i64 t349,.slice Ao79 y354.length co79] rfl ga_ ?_;(with_reducible refine (slices_Insert_int_int.calls (fun k_ => some k_ = (.slice Ao76 t345.length co76 : Value).ownBlock) (.slice Ao76 t345.length co76) t345 t349 _ _ y354 t357 w _ ?_ ?_ ?_ ?_ A47.out).mono ?_);(focus (repeat (first|(with_reducible first|exact HB.out|apply below_alloc|apply pw_below_drewN|apply below_drew1|refine below_set ?_ GE325.out|refine below_set ?_ GE326.out|refine below_set ?_ GE327.out|refine below_set ?_ GE340.out|refine below_set ?_ GE348.out)|exact HB.out)));exact Kd.R_tight rfl HO347.out;exact slices_Insert_int_int.arg (HO356.out) (fun k_ hk_ hs_ => (hk_.2) hs_);exact (Kd.R_reads' HO356.out).2.1;rintro e w80 ⟨v358,rfl,ho0,hb,hkp⟩;refine ⟨_,rfl,?_⟩;have HO359:=Aside0.mk (Kd.R_mono (ok':=fun k_ => some k_ ≠ (.slice Ao62 t330.length co62 : Value).ownBlock ∧ some k_ ≠ (.slice Ao63 t333.length co63 : Value).ownBlock ∧ some k_ ≠ (.slice Ao70 t342.length co70 : Value).ownBlock ∧ some k_ ≠ (.slice Ao79 y354.length co79 : Value).ownBlock) ho0 (fun k_ hk_ => ⟨Or.elim hk_ (fun hs_ => fun e_ => (((HO332.out).1 k_ e_.symm).1.2) hs_) (fun hn_ => (Kd.fresh' (Kd.R_lt (Kd.R_up HO332.out)) k_ hn_)),Or.elim hk_ (fun hs_ => fun e_ => (((HO335.out).1 k_ e_.symm).1.2) hs_) (fun hn_ => (Kd.fresh' (Kd.R_lt (Kd.R_up HO335.out)) k_ hn_)),Or.elim hk_ (fun hs_ => fun e_ => (((HO344.out).1 k_ e_.symm).1.1.1) hs_) (fun hn_ => (Kd.fresh' (Kd.R_lt (Kd.R_up HO344.out)) k_ hn_)),Or.elim hk_ (fun hs_ => fun e_ => (((HO356.out).1 k_ e_.symm).2) hs_) (fun hn_ => (Kd.fresh' (Kd.R_lt (Kd.R_up HO356.out)) k_ hn_))⟩));replace BK325:=Aside0.mk (blk_kept (blk_up BK325.out) hkp (fun hs_ => (fun e_ => (Kd.R_ne HO347.out BK325.out (by decide)) e_) hs_));replace BK326:=Aside0.mk (blk_kept (blk_up BK326.out) hkp (fun hs_ => (fun e_ => (Kd.R_ne HO347.out BK326.out (by decide)) e_) hs_));replace BK327:=Aside0.mk (blk_kept (blk_up BK327.out) hkp (fun hs_ => (fun e_ => (Kd.R_ne HO347.out BK327.out (by decide)) e_) hs_));replace HO332:=Aside0.mk (Kd.R_mono (ok':=fun k_ => some k_ ≠ (.slice Ao63 t333.length co63 : Value).ownBlock ∧ some k_ ≠ (.slice Ao70 t342.length co70 : Value).ownBlock ∧ some k_ ≠ (.slice Ao79 y354.length co79 : Value).ownBlock ∧ some k_ ≠ (v358 : Value).ownBlock) (Kd.R_keptB (HO332.out) hkp (fun k_ hk_ hs_ => (hk_.1.2) hs_)) (fun k_ hk_ => ⟨hk_.1.1.1.1,hk_.1.1.1.2,hk_.1.2,fun e_ => Or.elim (ho0.1 k_ e_.symm) (fun hs_ => hk_.2.1 hs_) (fun hn_ => Nat.not_le.2 hk_.2.2 hn_)⟩));replace HO335:=Aside0.mk (Kd.R_mono (ok':=fun k_ => some k_ ≠ (.slice Ao62 t330.length co62 : Value).ownBlock ∧ some k_ ≠ (.slice Ao70 t342.length co70 : Value).ownBlock ∧ some k_ ≠ (.slice Ao79 y354.length co79 : Value).ownBlock ∧ some k_ ≠ (v358 : Value).ownBlock) (Kd.R_keptB (HO335.out) hkp (fun k_ hk_ hs_ => (hk_.1.2) hs_)) (fun k_ hk_ => ⟨hk_.1.1.1.1,hk_.1.1.1.2,hk_.1.2,fun e_ => Or.elim (ho0.1 k_ e_.symm) (fun hs_ => hk_.2.1 hs_) (fun hn_ => Nat.not_le.2 hk_.2.2 hn_)⟩));replace HO338:=Aside0.mk (Kd.R_mono (ok':=fun k_ => True) (Kd.R_keptB ((Kd.R_apart' HO338.out (Kd.R_typed HO347.out) (by decide))) hkp (fun k_ hk_ hs_ => (hk_.2) hs_)) (fun k_ hk_ => trivial));replace BK340:=Aside0.mk (blk_kept (blk_up BK340.out) hkp (fun hs_ => (fun e_ => (Kd.R_ne HO347.out BK340.out (by decide)) e_) hs_));replace HO344:=Aside0.mk (Kd.R_mono (ok':=fun k_ => some k_ ≠ (.slice Ao62 t330.length co62 : Value).ownBlock ∧ some k_ ≠ (.slice Ao63 t333.length co63 : Value).ownBlock ∧ some k_ ≠ (.slice Ao79 y354.length co79 : Value).ownBlock ∧ some k_ ≠ (v358 : Value).ownBlock) (Kd.R_keptB (HO344.out) hkp (fun k_ hk_ hs_ => (hk_.1.1.1) hs_)) (fun k_ hk_ => ⟨hk_.1.1.1.2,hk_.1.1.2,hk_.1.2,fun e_ => Or.elim (ho0.1 k_ e_.symm) (fun hs_ => hk_.2.1 hs_) (fun hn_ => Nat.not_le.2 hk_.2.2 hn_)⟩));replace BK348:=Aside0.mk (blk_kept (blk_up BK348.out) hkp (fun hs_ => (fun e_ => (Kd.R_ne HO347.out BK348.out (by decide)) e_) hs_));replace HO356:=Aside0.mk (Kd.R_mono (ok':=fun k_ => some k_ ≠ (.slice Ao62 t330.length co62 : Value).ownBlock ∧ some k_ ≠ (.slice Ao63 t333.length co63 : Value).ownBlock ∧ some k_ ≠ (.slice Ao70 t342.length co70 : Value).ownBlock ∧ some k_ ≠ (v358 : Value).ownBlock) (Kd.R_keptB (HO356.out) hkp (fun k_ hk_ hs_ => (hk_.2) hs_)) (fun k_ hk_ => ⟨hk_.1.1.1.1.2,hk_.1.1.1.2,hk_.1.1.2,fun e_ => Or.elim (ho0.1 k_ e_.symm) (fun hs_ => hk_.2.1 hs_) (fun hn_ => Nat.not_le.2 hk_.2.2 hn_)⟩));replace HB:=Aside0.mk (hb);clear HO347;obtain ⟨Ao81,co81,eo81⟩:=Kd.R_slice HO359.out;subst eo81;obtain ⟨_,_,_,_⟩:=cells2 BK348.out;obtain ⟨_,_,_,_⟩:=cells2 BK327.out))
   refine bodyPost_ret (results_ct rfl _ _ gb327 26 #[.slice Ao70 t342.length co70,.slice Ao81 t357.length co81] (0,0) _ rfl (by (with_reducible repeat (first|refine blk_drewN ?_ _|refine blk_drew ?_|refine blk_alloc ?_ _));refine blk_put (cs:=#[.slice Ao70 t342.length co70,.slice none 0 0]) ?_ 1 _ rfl;(with_reducible repeat (first|refine blk_drewN ?_ _|refine blk_drew ?_|refine blk_alloc ?_ _));refine blk_put (cs:=#[.slice none 0 0,.slice none 0 0]) ?_ 0 _ rfl;(with_reducible repeat (first|refine blk_drewN ?_ _|refine blk_drew ?_|refine blk_alloc ?_ _));refine blk_far ?_ NB327_348.out _;(with_reducible repeat (first|refine blk_drewN ?_ _|refine blk_drew ?_|refine blk_alloc ?_ _));exact BK327.out) Try.underlying26 rfl (by kernel_rfl)) rfl ?_
   exact ⟨_,_,er_,by (with_reducible repeat (first|apply Kd.R_alloc|apply Kd.R_drewN|apply Kd.R_drew));exact Kd.R_mono (Kd.R_fars gb327 (Kd.R_far (p:=⟨gb348,1,none⟩) (Kd.R_types (Kd.R_types HO344.out BK348.out (by decide)) BK327.out (by decide)) (fun _ hk => hk.1.2) (.slice Ao81 t357.length co81)) (fun _ hk => hk.2)) (fun _ hk => hk.1.1.2.2.2),by (with_reducible repeat (first|apply Kd.R_alloc|apply Kd.R_drewN|apply Kd.R_drew));exact Kd.R_mono (Kd.R_fars gb327 (Kd.R_far (p:=⟨gb348,1,none⟩) (Kd.R_types (Kd.R_types HO359.out BK348.out (by decide)) BK327.out (by decide)) (fun _ hk => hk.1.2) (.slice Ao81 t357.length co81)) (fun _ hk => hk.2)) (fun _ hk => hk.1.1.2.2.1),hb_⟩
 ·replace c7:=Bool.eq_false_iff.mpr c7
  subst c7
  have H1 : (some (([] : List Int),([] : List Int),9)) = some (r1,r2,r3):=by rw [if_neg (show ¬ (false = true) by decide)] at H;exact H
  clear H
  have H:=H1
  clear H1
  simp only [Option.some.injEq,Prod.mk.injEq] at H
  obtain ⟨rfl,rfl,rfl⟩:=H
  go_enter Try.func37,Try.ntmps37
  go_wp2_with (first|((with_reducible refine gate_dst (N:=3) rfl ?_);refine box_ev (N:=3) (cs:=#[.int .i64 a0_0,.int .i64 a0_1,.slice A0_2 l0_2.length c0_2]) (t:=24) ?_;intro gb325 hg w84 hbox hb;have BK325:=Aside0.mk (hbox);have GW325 : Aside0 (w.heap.size ≤ gb325):=gsz hg;have GE325:=GW325;replace HB:=hbs hb;clear hb hbox hg)|((with_reducible refine gate_dst (N:=4) rfl ?_);refine box_ev (N:=4) (cs:=#[.slice A1_0 l1_0.length c1_0,.slice A1_1 l1_1.length c1_1]) (t:=26) ?_;intro gb326 hg w85 hbox hb;have BK326:=Aside0.mk (hbox);have GW326 : Aside0 (w.heap.size ≤ gb326):=gsz hg;have GE326:=GW326;have NB325_326:=nbl BK325 hg;have NB326_325:=nbr BK325 hg;replace BK325:=bkb BK325 hb;replace HB:=hbs hb;clear hb hbox hg)|((with_reducible refine gate_dst (N:=6) rfl ?_);refine box_ev (N:=6) (cs:=#[.slice none 0 0,.slice none 0 0]) (t:=26) ?_;intro gb327 hg w86 hbox hb;have BK327:=Aside0.mk (hbox);have GW327 : Aside0 (w.heap.size ≤ gb327):=gsz hg;have GE327:=GW327;have NB325_327:=nbl BK325 hg;have NB327_325:=nbr BK325 hg;have NB326_327:=nbl BK326 hg;have NB327_326:=nbr BK326 hg;replace BK325:=bkb BK325 hb;replace BK326:=bkb BK326 hb;replace HB:=hbs hb;clear hb hbox hg;have hnb87:=NB325_326.out;have hnc87:=NB326_325.out;have hnb88:=NB325_327.out;have hnc88:=NB327_325.out;obtain ⟨_,_,_,_,_,_⟩:=cells3 BK325.out;have hnb90:=NB326_327.out;have hnc90:=NB327_326.out;obtain ⟨_,_,_,_⟩:=cells2 BK326.out)|((with_reducible refine gate_callee (f:=40) rfl ?_);refine goesL_ (some 17) rfl rfl Try.func40 (by kernel_rfl) rfl #[.agg #[.int .i64 a0_0,.int .i64 a0_1,.slice A0_2 l0_2.length c0_2],.agg #[.slice A1_0 l1_0.length c1_0,.slice A1_1 l1_1.length c1_1],.int .i64 a2] rfl ga_ ?_;(with_reducible refine (water_at.calls k a0_0 a0_1 _ _ l0_2 _ _ l1_0 _ _ l1_1 a2 t328 t329 t330 t333 t336 t339 _ ?_ ?_ ?_ ?_ ?_ ?_ A4.out).mono ?_);exact cq HR0_2;exact HC0_2.out;exact cq HR1_0;exact HC1_0.out;exact cq HR1_1;exact HC1_1.out;rintro e w92 ⟨v331,v334,v337,rfl,ho0,ho1,ho2,hb⟩;refine ⟨_,rfl,?_⟩;have HO332:=rlo ho0;have HO335:=rlo ho1;have HO338:=rlo ho2;replace BK325:=bkb BK325 hb;replace BK326:=bkb BK326 hb;replace BK327:=bkb BK327 hb;replace HB:=hbs hb)|((with_reducible refine gate_dst (N:=8) rfl ?_);refine box_ev (N:=8) (cs:=#[.int .i64 0,.int .i64 0,.slice none 0 0,.slice none 0 0,.slice none 0 0]) (t:=52) ?_;intro gb340 hg w93 hbox hb;have BK340:=Aside0.mk (hbox);have GW340 : Aside0 (w.heap.size ≤ gb340):=gsz hg;have GE340:=GW340;have NB325_340:=nbl BK325 hg;have NB340_325:=nbr BK325 hg;have NB326_340:=nbl BK326 hg;have NB340_326:=nbr BK326 hg;have NB327_340:=nbl BK327 hg;have NB340_327:=nbr BK327 hg;replace HO332:=rbw HO332 hb;replace HO335:=rbw HO335 hb;replace HO338:=rbw HO338 hb;replace BK325:=bkb BK325 hb;replace BK326:=bkb BK326 hb;replace BK327:=bkb BK327 hb;replace HB:=hbs hb;clear hb hbox hg;have hnb94:=NB340_325.out;have hnc94:=NB325_340.out;have hnb95:=NB340_326.out;have hnc95:=NB326_340.out;have hnb96:=NB340_327.out;have hnc96:=NB327_340.out;obtain ⟨_,_,_,_,_,_,_,_,_,_⟩:=cells5 BK340.out;obtain ⟨Ao98,co98,eo98⟩:=Kd.R_slice HO332.out;subst eo98;obtain ⟨Ao99,co99,eo99⟩:=Kd.R_slice HO335.out;subst eo99;obtain ⟨Ao100,co100,eo100⟩:=Kd.R_slice HO338.out;subst eo100;obtain ⟨_,_,_,_⟩:=cells2 BK326.out)|((with_reducible refine gate_callee (f:=45) rfl ?_);refine goesL_ (some 27) rfl rfl Try.func45 (by kernel_rfl) rfl #[.agg #[.int .i64 t328,.int .i64 t329,.slice Ao98 t330.length co98,.slice Ao99 t333.length co99,.slice Ao100 t336.length co100],.agg #[.slice A1_0 l1_0.length c1_0,.slice A1_1 l1_1.length c1_1],.int .i64 a2] rfl ga_ ?_;(with_reducible refine (water_ground_wet.calls t328 t329 _ _ t330 _ _ t333 _ _ t336 _ _ l1_0 _ _ l1_1 a2 false _ ?_ ?_ ?_ ?_ ?_ ?_ ?_ ?_ ?_ ?_ A6.out).mono ?_);exact rqs gb340 HO332 BK340;exact (Kd.R_reads' HO332.out).2.1;exact rqs gb340 HO335 BK340;exact (Kd.R_reads' HO335.out).2.1;exact rqs gb340 HO338 BK340;exact (Kd.R_reads' HO338.out).2.1;exact Kd.C_below HR1_0.out (hb_);exact HC1_0.out;exact Kd.C_below HR1_1.out (hb_);exact HC1_1.out;rintro e w102 ⟨rfl,hb⟩;refine ⟨_,rfl,?_⟩;replace HO332:=Aside0.mk (Kd.R_below (by (with_reducible repeat (first|apply Kd.R_alloc|apply Kd.R_drewN|apply Kd.R_drew));exact (Kd.R_mono (Kd.R_fars gb340 (Kd.R_types HO332.out BK340.out (by decide)) (fun _ hk => hk.2)) (fun _ h_ => h_.1))) hb);replace HO335:=Aside0.mk (Kd.R_below (by (with_reducible repeat (first|apply Kd.R_alloc|apply Kd.R_drewN|apply Kd.R_drew));exact (Kd.R_mono (Kd.R_fars gb340 (Kd.R_types HO335.out BK340.out (by decide)) (fun _ hk => hk.2)) (fun _ h_ => h_.1))) hb);replace HO338:=Aside0.mk (Kd.R_below (by (with_reducible repeat (first|apply Kd.R_alloc|apply Kd.R_drewN|apply Kd.R_drew));exact (Kd.R_mono (Kd.R_fars gb340 (Kd.R_types HO338.out BK340.out (by decide)) (fun _ hk => hk.2)) (fun _ h_ => h_.1))) hb);replace BK325:=Aside0.mk (blk_below (g:=gb325) (o:=.cells #[.int .i64 a0_0,.int .i64 a0_1,.slice A0_2 l0_2.length c0_2] 24 (0,0)) (by (with_reducible repeat (first|refine blk_drewN ?_ _|refine blk_drew ?_|refine blk_alloc ?_ _));refine blk_far ?_ NB325_340.out _;(with_reducible repeat (first|refine blk_drewN ?_ _|refine blk_drew ?_|refine blk_alloc ?_ _));refine blk_far ?_ NB325_340.out _;(with_reducible repeat (first|refine blk_drewN ?_ _|refine blk_drew ?_|refine blk_alloc ?_ _));refine blk_far ?_ NB325_340.out _;(with_reducible repeat (first|refine blk_drewN ?_ _|refine blk_drew ?_|refine blk_alloc ?_ _));refine blk_far ?_ NB325_340.out _;(with_reducible repeat (first|refine blk_drewN ?_ _|refine blk_drew ?_|refine blk_alloc ?_ _));refine blk_far ?_ NB325_340.out _;(with_reducible repeat (first|refine blk_drewN ?_ _|refine blk_drew ?_|refine blk_alloc ?_ _));exact BK325.out) hb);replace BK326:=Aside0.mk (blk_below (g:=gb326) (o:=.cells #[.slice A1_0 l1_0.length c1_0,.slice A1_1 l1_1.length c1_1] 26 (0,0)) (by (with_reducible repeat (first|refine blk_drewN ?_ _|refine blk_drew ?_|refine blk_alloc ?_ _));refine blk_far ?_ NB326_340.out _;(with_reducible repeat (first|refine blk_drewN ?_ _|refine blk_drew ?_|refine blk_alloc ?_ _));refine blk_far ?_ NB326_340.out _;(with_reducible repeat (first|refine blk_drewN ?_ _|refine blk_drew ?_|refine blk_alloc ?_ _));refine blk_far ?_ NB326_340.out _;(with_reducible repeat (first|refine blk_drewN ?_ _|refine blk_drew ?_|refine blk_alloc ?_ _));refine blk_far ?_ NB326_340.out _;(with_reducible repeat (first|refine blk_drewN ?_ _|refine blk_drew ?_|refine blk_alloc ?_ _));refine blk_far ?_ NB326_340.out _;(with_reducible repeat (first|refine blk_drewN ?_ _|refine blk_drew ?_|refine blk_alloc ?_ _));exact BK326.out) hb);replace BK327:=Aside0.mk (blk_below (g:=gb327) (o:=.cells #[.slice none 0 0,.slice none 0 0] 26 (0,0)) (by (with_reducible repeat (first|refine blk_drewN ?_ _|refine blk_drew ?_|refine blk_alloc ?_ _));refine blk_far ?_ NB327_340.out _;(with_reducible repeat (first|refine blk_drewN ?_ _|refine blk_drew ?_|refine blk_alloc ?_ _));refine blk_far ?_ NB327_340.out _;(with_reducible repeat (first|refine blk_drewN ?_ _|refine blk_drew ?_|refine blk_alloc ?_ _));refine blk_far ?_ NB327_340.out _;(with_reducible repeat (first|refine blk_drewN ?_ _|refine blk_drew ?_|refine blk_alloc ?_ _));refine blk_far ?_ NB327_340.out _;(with_reducible repeat (first|refine blk_drewN ?_ _|refine blk_drew ?_|refine blk_alloc ?_ _));refine blk_far ?_ NB327_340.out _;(with_reducible repeat (first|refine blk_drewN ?_ _|refine blk_drew ?_|refine blk_alloc ?_ _));exact BK327.out) hb);replace BK340:=Aside0.mk (blk_below (g:=gb340) (o:=.cells #[.int .i64 t328,.int .i64 t329,.slice Ao98 t330.length co98,.slice Ao99 t333.length co99,.slice Ao100 t336.length co100] 52 (0,0)) (by (with_reducible repeat (first|refine blk_drewN ?_ _|refine blk_drew ?_|refine blk_alloc ?_ _));exact blk_puts5 (blk_up BK340.out)) hb);replace HB:=hbs hb;obtain ⟨_,_,_,_⟩:=cells2 BK327.out))
  refine bodyPost_ret (results_ct rfl _ _ gb327 26 #[.slice none 0 0,.slice none 0 0] (0,0) _ rfl (by (with_reducible repeat (first|refine blk_drewN ?_ _|refine blk_drew ?_|refine blk_alloc ?_ _));exact blk_puts2 (blk_up BK327.out)) Try.underlying26 rfl (by kernel_rfl)) rfl ?_
  exact ⟨_,_,er_,nl_,nl_,hb_⟩

/-! ### hinterlandref02_Is: function 33 -/
def hinterlandref02_Is.f (a0_0 : Int) (a0_1 : Int) (l0_2 : List Int) (a1 : Int) : Option (Bool) := if a1 ≥ 0 then (some (decide (a1 < (wrap64 (a0_0 * a0_1))))) else (some false)
set_option maxHeartbeats 8000000 in
set_option maxRecDepth 100000 in
theorem hinterlandref02_Is.calls (a0_0 : Int) (a0_1 : Int) (A0_2 : Option Addr) (c0_2 : Nat) (l0_2 : List Int) (a1 : Int) (r : Bool) (w : World) (hr0_2 : Kd.C (Kd.int .i64) w A0_2 l0_2.length l0_2) (hc0_2 : l0_2.length ≤ c0_2) (h : hinterlandref02_Is.f a0_0 a0_1 l0_2 a1 = some r) :
  Calls Try.prog 33 #[.agg #[.int .i64 a0_0,.int .i64 a0_1,.slice A0_2 l0_2.length c0_2],.int .i64 a1] w fun e w' => e = .returned (.bool r) ∧ Below w.heap.size w w':=by
 have hu24:=Try.underlying24
 have HR0_2:=Aside0.mk hr0_2
 have HC0_2:=Aside0.mk hc0_2
 clear hr0_2 hc0_2
 have HB:=Aside0.mk (Below.refl w.heap.size w)
 have H : (if a1 ≥ 0 then (some (decide (a1 < (wrap64 (a0_0 * a0_1))))) else (some false)) = some r:=h
 clear h
 by_cases c3 : a1 ≥ 0
 ·rw [if_pos c3] at H
  have c3b0 : decide (0 ≤ a1) = true:=decide_eq_true c3
  clear c3
  obtain rfl:=Option.some.inj H
  go_enter Try.func33,Try.ntmps33
  go_wp2_with (first|((with_reducible refine gate_dst (N:=2) rfl ?_);refine box_ev (N:=2) (cs:=#[.int .i64 a0_0,.int .i64 a0_1,.slice A0_2 l0_2.length c0_2]) (t:=24) ?_;intro gb360 hg w4 hbox hb;have BK360:=Aside0.mk (hbox);have GW360 : Aside0 (w.heap.size ≤ gb360):=gsz hg;have GE360:=GW360;replace HB:=hbs hb;clear hb hbox hg;obtain ⟨_,_,_,_,_,_⟩:=cells3 BK360.out))
  go_ret
  exact ⟨er_,hb_⟩
 ·rw [if_neg c3] at H
  have c3b0 : decide (0 ≤ a1) = false:=decide_eq_false c3
  clear c3
  obtain rfl:=Option.some.inj H
  go_enter Try.func33,Try.ntmps33
  go_wp2_with (first|((with_reducible refine gate_dst (N:=2) rfl ?_);refine box_ev (N:=2) (cs:=#[.int .i64 a0_0,.int .i64 a0_1,.slice A0_2 l0_2.length c0_2]) (t:=24) ?_;intro gb360 hg w6 hbox hb;have BK360:=Aside0.mk (hbox);have GW360 : Aside0 (w.heap.size ≤ gb360):=gsz hg;have GE360:=GW360;replace HB:=hbs hb;clear hb hbox hg))
  go_ret
  exact ⟨er_,hb_⟩

/-! ### hinterlandref02_Places: function 68 -/
def hinterlandref02_Places.f (a0_0 : Int) (a0_1 : Int) (l0_2 : List Int) (a1 : Int) : Option (S71) := if a0_0 = 0 then (none) else (some (⟨wrap64 ((wrap64 ((wrap64 (Int.tdiv a1 a0_0)) * (wrap64 (a0_0 + 1)))) + (Int.tmod a1 a0_0)), wrap64 ((wrap64 ((wrap64 ((wrap64 (Int.tdiv a1 a0_0)) * (wrap64 (a0_0 + 1)))) + (Int.tmod a1 a0_0))) + 1), wrap64 ((wrap64 ((wrap64 ((wrap64 ((wrap64 (Int.tdiv a1 a0_0)) * (wrap64 (a0_0 + 1)))) + (Int.tmod a1 a0_0))) + a0_0)) + 2), wrap64 ((wrap64 ((wrap64 ((wrap64 ((wrap64 (Int.tdiv a1 a0_0)) * (wrap64 (a0_0 + 1)))) + (Int.tmod a1 a0_0))) + a0_0)) + 1)⟩ : S71))
set_option maxHeartbeats 8000000 in
set_option maxRecDepth 100000 in
theorem hinterlandref02_Places.calls (a0_0 : Int) (a0_1 : Int) (A0_2 : Option Addr) (c0_2 : Nat) (l0_2 : List Int) (a1 : Int) (r : S71) (w : World) (hr0_2 : Kd.C (Kd.int .i64) w A0_2 l0_2.length l0_2) (hc0_2 : l0_2.length ≤ c0_2) (h : hinterlandref02_Places.f a0_0 a0_1 l0_2 a1 = some r) :
  Calls Try.prog 68 #[.agg #[.int .i64 a0_0,.int .i64 a0_1,.slice A0_2 l0_2.length c0_2],.int .i64 a1] w fun e w' => e = .returned (.agg #[.int .i64 r.f0,.int .i64 r.f1,.int .i64 r.f2,.int .i64 r.f3]) ∧ Below w.heap.size w w':=by
 have hu24:=Try.underlying24
 have hu71:=Try.underlying71
 have HR0_2:=Aside0.mk hr0_2
 have HC0_2:=Aside0.mk hc0_2
 clear hr0_2 hc0_2
 have HB:=Aside0.mk (Below.refl w.heap.size w)
 have H : (if a0_0 = 0 then (none) else (some (⟨wrap64 ((wrap64 ((wrap64 (Int.tdiv a1 a0_0)) * (wrap64 (a0_0 + 1)))) + (Int.tmod a1 a0_0)),wrap64 ((wrap64 ((wrap64 ((wrap64 (Int.tdiv a1 a0_0)) * (wrap64 (a0_0 + 1)))) + (Int.tmod a1 a0_0))) + 1),wrap64 ((wrap64 ((wrap64 ((wrap64 ((wrap64 (Int.tdiv a1 a0_0)) * (wrap64 (a0_0 + 1)))) + (Int.tmod a1 a0_0))) + a0_0)) + 2),wrap64 ((wrap64 ((wrap64 ((wrap64 ((wrap64 (Int.tdiv a1 a0_0)) * (wrap64 (a0_0 + 1)))) + (Int.tmod a1 a0_0))) + a0_0)) + 1)⟩ : S71))) = some r:=h
 clear h
 replace H:=ifn_ H;obtain ⟨c3,H⟩:=H
 have c3b0 : (a0_0 == 0) = false:=beq_eq_false_iff_ne.mpr c3
 have c3b1 : (a0_0 != 0) = true:=bne_iff_ne.mpr c3
 obtain rfl:=Option.some.inj H
 go_enter Try.func68,Try.ntmps68
 go_wp2_with (first|((with_reducible refine gate_dst (N:=2) rfl ?_);refine box_ev (N:=2) (cs:=#[.int .i64 a0_0,.int .i64 a0_1,.slice A0_2 l0_2.length c0_2]) (t:=24) ?_;intro gb361 hg w4 hbox hb;have BK361:=Aside0.mk (hbox);have GW361 : Aside0 (w.heap.size ≤ gb361):=gsz hg;have GE361:=GW361;replace HB:=hbs hb;clear hb hbox hg)|((with_reducible refine gate_dst (N:=4) rfl ?_);refine box_ev (N:=4) (cs:=#[.int .i64 0,.int .i64 0,.int .i64 0,.int .i64 0]) (t:=71) ?_;intro gb362 hg w5 hbox hb;have BK362:=Aside0.mk (hbox);have GW362 : Aside0 (w.heap.size ≤ gb362):=gsz hg;have GE362:=GW362;have NB361_362:=nbl BK361 hg;have NB362_361:=nbr BK361 hg;replace BK361:=bkb BK361 hb;replace HB:=hbs hb;clear hb hbox hg;have hnb6:=NB361_362.out;have hnc6:=NB362_361.out;obtain ⟨_,_,_,_,_,_⟩:=cells3 BK361.out;obtain ⟨_,_,_,_,_,_,_,_⟩:=cells4 BK362.out))
 go_quiet (fail)
 go_wp2
 refine bodyPost_ret (results_cell_row rfl _ _ gb362 71 #[.int .i64 (wrap64 ((wrap64 ((wrap64 (Int.tdiv a1 a0_0)) * (wrap64 (a0_0 + 1)))) + (Int.tmod a1 a0_0))),.int .i64 (wrap64 ((wrap64 ((wrap64 ((wrap64 (Int.tdiv a1 a0_0)) * (wrap64 (a0_0 + 1)))) + (Int.tmod a1 a0_0))) + 1)),.int .i64 (wrap64 ((wrap64 ((wrap64 ((wrap64 ((wrap64 (Int.tdiv a1 a0_0)) * (wrap64 (a0_0 + 1)))) + (Int.tmod a1 a0_0))) + a0_0)) + 2)),.int .i64 (wrap64 ((wrap64 ((wrap64 ((wrap64 ((wrap64 (Int.tdiv a1 a0_0)) * (wrap64 (a0_0 + 1)))) + (Int.tmod a1 a0_0))) + a0_0)) + 1))] (0,0) _ rfl (by (with_reducible repeat (first|refine blk_drewN ?_ _|refine blk_drew ?_|refine blk_alloc ?_ _));exact blk_puts4 (blk_up BK362.out)) Try.underlying71 rfl (by kernel_rfl)) rfl ?_
 exact ⟨er_,hb_⟩

/-! ### hinterlandref02_Sea: function 51 -/
def hinterlandref02_Sea.l0 : Nat → S71 → Int → Int → Int → List Int → Option (Bool)
 | 0,_,_,_,_,_ => none
 | k + 1,x9,x10,x364000,x364001,x364002 => if x10 < 4 then (if 0 ≤ x10 then (if 0 ≤ (ix71 x9 x10) then (if (ix71 x9 x10) < (x364002.length : Int) then (if (rd x364002 (ix71 x9 x10)) > 2 then (some false) else (hinterlandref02_Sea.l0 k x9 (wrap64 (x10 + 1)) x364000 x364001 x364002)) else (none)) else (none)) else (none)) else (some true)
def hinterlandref02_Sea.f (k : Nat) (a0_0 : Int) (a0_1 : Int) (l0_2 : List Int) (a1 : Int) : Option (Bool) := (hinterlandref02_Places.f a0_0 a0_1 l0_2 a1).bind fun t364 => (hinterlandref02_Sea.l0 k t364 0 a0_0 a0_1 l0_2)
theorem hinterlandref02_Sea.mono_l : ∀ k, (∀ y0 y1 y2 y3 y4, LeO (hinterlandref02_Sea.l0 k y0 y1 y2 y3 y4) (hinterlandref02_Sea.l0 (k + 1) y0 y1 y2 y3 y4))
 | 0 => fun _ _ _ _ _ r h => by simp [hinterlandref02_Sea.l0] at h
 | k + 1 => by
  have ih0:=hinterlandref02_Sea.mono_l k
  ·intro y0 y1 y2 y3 y4
   unfold hinterlandref02_Sea.l0
   repeat' first
   | (with_reducible exact ih0 _ _ _ _ _)
   | (with_reducible exact LeO.refl _)
   | (with_reducible exact LeO.none _)
   | (with_reducible refine LeO.ite ?_ ?_)
   | (with_reducible refine LeO.bind ?_ (fun _ => ?_))
   | exact ih0 _ _ _ _ _
   | exact LeO.none _
   | refine LeO.ite ?_ ?_
   | refine LeO.bind ?_ (fun _ => ?_)
theorem hinterlandref02_Sea.mono : ∀ a0 a1 a2 a3 k, LeO (hinterlandref02_Sea.f k a0 a1 a2 a3) (hinterlandref02_Sea.f (k + 1) a0 a1 a2 a3) := by
 intro a0 a1 a2 a3 k
 have ih0:=hinterlandref02_Sea.mono_l k
 unfold hinterlandref02_Sea.f
 repeat' first
   | (with_reducible exact ih0 _ _ _ _ _)
   | (with_reducible exact LeO.refl _)
   | (with_reducible exact LeO.none _)
   | (with_reducible refine LeO.ite ?_ ?_)
   | (with_reducible refine LeO.bind ?_ (fun _ => ?_))
   | exact ih0 _ _ _ _ _
   | exact LeO.none _
   | refine LeO.ite ?_ ?_
   | refine LeO.bind ?_ (fun _ => ?_)
set_option maxHeartbeats 8000000 in
set_option maxRecDepth 100000 in
theorem hinterlandref02_Sea.calls (k : Nat) (a0_0 : Int) (a0_1 : Int) (A0_2 : Option Addr) (c0_2 : Nat) (l0_2 : List Int) (a1 : Int) (r : Bool) (w : World) (hr0_2 : Kd.C (Kd.int .i64) w A0_2 l0_2.length l0_2) (hc0_2 : l0_2.length ≤ c0_2) (h : hinterlandref02_Sea.f k a0_0 a0_1 l0_2 a1 = some r) :
  Calls Try.prog 51 #[.agg #[.int .i64 a0_0,.int .i64 a0_1,.slice A0_2 l0_2.length c0_2],.int .i64 a1] w fun e w' => e = .returned (.bool r) ∧ Below w.heap.size w w':=by
 have hu24:=Try.underlying24
 have hu71:=Try.underlying71
 have HR0_2:=Aside0.mk hr0_2
 have HC0_2:=Aside0.mk hc0_2
 clear hr0_2 hc0_2
 have HB:=Aside0.mk (Below.refl w.heap.size w)
 have H : ((hinterlandref02_Places.f a0_0 a0_1 l0_2 a1).bind fun t364 => (hinterlandref02_Sea.l0 k t364 0 a0_0 a0_1 l0_2)) = some r:=h
 clear h
 replace H:=Option.bind_eq_some_iff.mp H
 obtain ⟨t364,A30,H⟩:=H
 replace H : (hinterlandref02_Sea.l0 k t364 0 a0_0 a0_1 l0_2) = some r:=H
 have A3:=Aside0.mk A30
 clear A30
 have H':=Aside0.mk H
 clear H
 go_enter Try.func51,Try.ntmps51
 go_wp2_with (first|((with_reducible refine gate_dst (N:=2) rfl ?_);refine box_ev (N:=2) (cs:=#[.int .i64 a0_0,.int .i64 a0_1,.slice A0_2 l0_2.length c0_2]) (t:=24) ?_;intro gb363 hg w4 hbox hb;have BK363:=Aside0.mk (hbox);have GW363 : Aside0 (w.heap.size ≤ gb363):=gsz hg;have GE363:=GW363;replace HB:=hbs hb;clear hb hbox hg;obtain ⟨_,_,_,_,_,_⟩:=cells3 BK363.out)|((with_reducible refine gate_callee (f:=68) rfl ?_);refine goesL_ (some 9) rfl rfl Try.func68 (by kernel_rfl) rfl #[.agg #[.int .i64 a0_0,.int .i64 a0_1,.slice A0_2 l0_2.length c0_2],.int .i64 a1] rfl ga_ ?_;(with_reducible refine (hinterlandref02_Places.calls a0_0 a0_1 _ _ l0_2 a1 t364 _ ?_ ?_ A3.out).mono ?_);exact cq HR0_2;exact HC0_2.out;rintro e w6 ⟨rfl,hb⟩;refine ⟨_,rfl,?_⟩;replace BK363:=bkb BK363 hb;replace HB:=hbs hb))
 go_loopg [10] k (fun kq v10 w' => ∃ (x10_1 : Int),v10 = .int .i64 x10_1 ∧ Aside0 (hinterlandref02_Sea.l0 kq t364 x10_1 a0_0 a0_1 l0_2 = some r) ∧ Aside0 (kq ≤ k) ∧ Aside0 (w'.heap[gb363]? = some (.cells #[.int .i64 a0_0,.int .i64 a0_1,(.slice A0_2 l0_2.length c0_2)] 24 (0,0))) ∧ Aside0 (Below w.heap.size w w'))
 case atStart => exact ⟨(0),(by first|rfl|(simp;done)|(simp [*];done)),H',⟨Nat.le_refl _⟩,⟨blk_up BK363.out⟩,⟨hb_⟩⟩
 case round =>
  clear H'
  obtain ⟨x10_1,rfl,HA,HK1,BK363,HB⟩:=hrel
  cases gk with
  | zero => exact absurd HA.out (by simp [hinterlandref02_Sea.l0])
  | succ k1 =>
   have H:=HA.out
   clear HA
   simp only [hinterlandref02_Sea.l0] at H
   by_cases c7 : x10_1 < 4
   rotate_left
   ·rw [if_neg c7] at H
    have c7b0 : decide (x10_1 < 4) = false:=decide_eq_false c7
    clear c7
    obtain rfl:=Option.some.inj H
    go_wp2
    go_ret
    exact ⟨er_,hb_⟩
   rw [if_pos c7] at H
   have c7b0 : decide (x10_1 < 4) = true:=decide_eq_true c7
   clear c7
   replace H:=ifp_ H;obtain ⟨c8,H⟩:=H
   have c8b0 : decide (0 ≤ x10_1) = true:=decide_eq_true c8
   clear c8
   have hix9:=fun (W_ : World) => (ix71_run t364.f0 t364.f1 t364.f2 t364.f3 x10_1 (of_decide_eq_true (by first|(with_reducible assumption)|assumption)) (of_decide_eq_true (by first|(with_reducible assumption)|assumption)) W_ : (Instr.index 71 (.agg #[.int .i64 t364.f0,.int .i64 t364.f1,.int .i64 t364.f2,.int .i64 t364.f3]) (.int .i64 x10_1)).run Try.prog W_ = .ok (.int .i64 (ix71 t364 x10_1)) W_)
   replace H:=ifp_ H;obtain ⟨c10,H⟩:=H
   have c10b0 : decide (0 ≤ (ix71 t364 x10_1)) = true:=decide_eq_true c10
   clear c10
   replace H:=ifp_ H;obtain ⟨c11,H⟩:=H
   have c11b0 : decide ((ix71 t364 x10_1) < (l0_2.length : Int)) = true:=decide_eq_true c11
   clear c11
   by_cases c12 : (rd l0_2 (ix71 t364 x10_1)) > 2
   ·rw [if_pos c12] at H
    have c12b0 : decide (2 < (rd l0_2 (ix71 t364 x10_1))) = true:=decide_eq_true c12
    clear c12
    obtain rfl:=Option.some.inj H
    obtain ⟨_,_,_,_,_,_⟩:=cells3 BK363.out
    have p365 : 0 ≤ ((ix71 t364 x10_1) : Int):=of_decide_eq_true (by first|(with_reducible assumption)|assumption)
    have q365 : (ix71 t364 x10_1) < (l0_2.length : Int):=of_decide_eq_true (by first|(with_reducible assumption)|assumption)
    obtain ⟨ad365,e365,hx365_0⟩:=Kd.at_int HR0_2.out (ix71 t364 x10_1) p365 q365
    cases e365
    replace hx365_0:=(HB.out.cell (World.block_lt_of_cell? w _ hx365_0)).trans hx365_0
    replace p365:=eq_true p365
    replace q365:=eq_true q365
    go_wp2
    go_ret
    exact ⟨er_,hb_⟩
   ·rw [if_neg c12] at H
    have c12b0 : decide (2 < (rd l0_2 (ix71 t364 x10_1))) = false:=decide_eq_false c12
    clear c12
    have H':=Aside0.mk H
    clear H
    obtain ⟨_,_,_,_,_,_⟩:=cells3 BK363.out
    have p365 : 0 ≤ ((ix71 t364 x10_1) : Int):=of_decide_eq_true (by first|(with_reducible assumption)|assumption)
    have q365 : (ix71 t364 x10_1) < (l0_2.length : Int):=of_decide_eq_true (by first|(with_reducible assumption)|assumption)
    obtain ⟨ad365,e365,hx365_0⟩:=Kd.at_int HR0_2.out (ix71 t364 x10_1) p365 q365
    cases e365
    replace hx365_0:=(HB.out.cell (World.block_lt_of_cell? w _ hx365_0)).trans hx365_0
    replace p365:=eq_true p365
    replace q365:=eq_true q365
    go_wp2
    go_roundg k1
    case measure => have:=HK1.out;omega
    case rel => exact ⟨(wrap64 (x10_1 + 1)),(by first|rfl|(simp;done)|(simp [*];done)),H',⟨by have:=HK1.out;omega⟩,⟨blk_up BK363.out⟩,⟨hb_⟩⟩

/-! ### hinterlandref06_Wet: function 47 -/
def hinterlandref06_Wet.f (k : Nat) (a0_0 : Int) (a0_1 : Int) (l0_2 : List Int) (l1 : List Int) (a2 : Int) : Option (Bool) := if 0 ≤ a2 then (if a2 < (l1.length : Int) then (if (rd l1 a2) = 0 then ((hinterlandref02_Sea.f k a0_0 a0_1 l0_2 a2).bind fun t368 => (some t368)) else (if (rd l1 a2) = 1 then ((hinterlandref02_Sea.f k a0_0 a0_1 l0_2 a2).bind fun t369 => (if t369 = true then (some false) else (some true))) else (if (rd l1 a2) = 2 then ((hinterlandref02_Sea.f k a0_0 a0_1 l0_2 a2).bind fun t370 => (if t370 = true then (some false) else (some true))) else (some true)))) else (none)) else (none)
theorem hinterlandref06_Wet.mono : ∀ a0 a1 a2 a3 a4 k, LeO (hinterlandref06_Wet.f k a0 a1 a2 a3 a4) (hinterlandref06_Wet.f (k + 1) a0 a1 a2 a3 a4) := by
 intro a0 a1 a2 a3 a4 k
 unfold hinterlandref06_Wet.f
 repeat' first
   | (with_reducible exact hinterlandref02_Sea.mono _ _ _ _ _)
   | (with_reducible exact LeO.refl _)
   | (with_reducible exact LeO.none _)
   | (with_reducible refine LeO.ite ?_ ?_)
   | (with_reducible refine LeO.bind ?_ (fun _ => ?_))
   | exact hinterlandref02_Sea.mono _ _ _ _ _
   | exact LeO.none _
   | refine LeO.ite ?_ ?_
   | refine LeO.bind ?_ (fun _ => ?_)
set_option maxHeartbeats 8000000 in
set_option maxRecDepth 100000 in
theorem hinterlandref06_Wet.calls (k : Nat) (a0_0 : Int) (a0_1 : Int) (A0_2 : Option Addr) (c0_2 : Nat) (l0_2 : List Int) (A1 : Option Addr) (c1 : Nat) (l1 : List Int) (a2 : Int) (r : Bool) (w : World) (hr0_2 : Kd.C (Kd.int .i64) w A0_2 l0_2.length l0_2) (hc0_2 : l0_2.length ≤ c0_2) (hr1 : Kd.C (Kd.int .i64) w A1 l1.length l1) (hc1 : l1.length ≤ c1) (h : hinterlandref06_Wet.f k a0_0 a0_1 l0_2 l1 a2 = some r) :
  Calls Try.prog 47 #[.agg #[.int .i64 a0_0,.int .i64 a0_1,.slice A0_2 l0_2.length c0_2],.slice A1 l1.length c1,.int .i64 a2] w fun e w' => e = .returned (.bool r) ∧ Below w.heap.size w w':=by
 have hu24:=Try.underlying24
 have HR0_2:=Aside0.mk hr0_2
 have HC0_2:=Aside0.mk hc0_2
 clear hr0_2 hc0_2
 have HR1:=Aside0.mk hr1
 have HC1:=Aside0.mk hc1
 clear hr1 hc1
 have HB:=Aside0.mk (Below.refl w.heap.size w)
 have H : (if 0 ≤ a2 then (if a2 < (l1.length : Int) then (if (rd l1 a2) = 0 then ((hinterlandref02_Sea.f k a0_0 a0_1 l0_2 a2).bind fun t368 => (some t368)) else (if (rd l1 a2) = 1 then ((hinterlandref02_Sea.f k a0_0 a0_1 l0_2 a2).bind fun t369 => (if t369 = true then (some false) else (some true))) else (if (rd l1 a2) = 2 then ((hinterlandref02_Sea.f k a0_0 a0_1 l0_2 a2).bind fun t370 => (if t370 = true then (some false) else (some true))) else (some true)))) else (none)) else (none)) = some r:=h
 clear h
 replace H:=ifp_ H;obtain ⟨c4,H⟩:=H
 have c4b0 : decide (0 ≤ a2) = true:=decide_eq_true c4
 clear c4
 replace H:=ifp_ H;obtain ⟨c5,H⟩:=H
 have c5b0 : decide (a2 < (l1.length : Int)) = true:=decide_eq_true c5
 clear c5
 by_cases c6 : (rd l1 a2) = 0
 ·rw [if_pos c6] at H
  have c6b0:=bqt c6
  have c6b1:=bnf c6
  clear c6
  replace H:=Option.bind_eq_some_iff.mp H
  obtain ⟨t368,A70,H⟩:=H
  replace H : (some t368) = some r:=H
  have A7:=Aside0.mk A70
  clear A70
  obtain rfl:=Option.some.inj H
  go_enter Try.func47,Try.ntmps47
  go_wp2_with (first|((with_reducible refine gate_dst (N:=3) rfl ?_);refine box_ev (N:=3) (cs:=#[.int .i64 a0_0,.int .i64 a0_1,.slice A0_2 l0_2.length c0_2]) (t:=24) ?_;intro gb366 hg w8 hbox hb;have BK366:=Aside0.mk (hbox);have GW366 : Aside0 (w.heap.size ≤ gb366):=gsz hg;have GE366:=GW366;replace HB:=hbs hb;clear hb hbox hg;have p367 : 0 ≤ (a2 : Int):=of_decide_eq_true (by first|(with_reducible assumption)|assumption);have q367 : a2 < (l1.length : Int):=of_decide_eq_true (by first|(with_reducible assumption)|assumption);obtain ⟨ad367,e367,hx367_0⟩:=Kd.at_int HR1.out a2 p367 q367;cases e367;replace hx367_0:=(HB.out.cell (World.block_lt_of_cell? w _ hx367_0)).trans hx367_0;replace p367:=eq_true p367;replace q367:=eq_true q367;obtain ⟨_,_,_,_,_,_⟩:=cells3 BK366.out)|(go_at_call 51;(with_reducible refine (hinterlandref02_Sea.calls k a0_0 a0_1 _ _ l0_2 a2 t368 _ ?_ ?_ A7.out).mono ?_);exact cq HR0_2;exact HC0_2.out;rintro e w10 ⟨rfl,hb⟩;replace BK366:=bkb BK366 hb;replace HB:=hbs hb))
  go_ret
  exact ⟨er_,hb_⟩
 rw [if_neg c6] at H
 have c6b0:=bqf c6
 have c6b1:=bnt c6
 by_cases c11 : (rd l1 a2) = 1
 ·rw [if_pos c11] at H
  have c11b0:=bqt c11
  have c11b1:=bnf c11
  clear c11
  replace H:=Option.bind_eq_some_iff.mp H
  obtain ⟨t369,A120,H⟩:=H
  replace H : (if t369 = true then (some false) else (some true)) = some r:=H
  have A12:=Aside0.mk A120
  clear A120
  by_cases c13 : t369 = true
  ·subst c13
   have H1 : (some false) = some r:=by rw [if_pos rfl] at H;exact H
   clear H
   have H:=H1
   clear H1
   obtain rfl:=Option.some.inj H
   go_enter Try.func47,Try.ntmps47
   go_wp2_with (first|((with_reducible refine gate_dst (N:=3) rfl ?_);refine box_ev (N:=3) (cs:=#[.int .i64 a0_0,.int .i64 a0_1,.slice A0_2 l0_2.length c0_2]) (t:=24) ?_;intro gb366 hg w14 hbox hb;have BK366:=Aside0.mk (hbox);have GW366 : Aside0 (w.heap.size ≤ gb366):=gsz hg;have GE366:=GW366;replace HB:=hbs hb;clear hb hbox hg;have p367 : 0 ≤ (a2 : Int):=of_decide_eq_true (by first|(with_reducible assumption)|assumption);have q367 : a2 < (l1.length : Int):=of_decide_eq_true (by first|(with_reducible assumption)|assumption);obtain ⟨ad367,e367,hx367_0⟩:=Kd.at_int HR1.out a2 p367 q367;cases e367;replace hx367_0:=(HB.out.cell (World.block_lt_of_cell? w _ hx367_0)).trans hx367_0;replace p367:=eq_true p367;replace q367:=eq_true q367;obtain ⟨_,_,_,_,_,_⟩:=cells3 BK366.out)|(go_at_call 51;(with_reducible refine (hinterlandref02_Sea.calls k a0_0 a0_1 _ _ l0_2 a2 true _ ?_ ?_ A12.out).mono ?_);exact cq HR0_2;exact HC0_2.out;rintro e w16 ⟨rfl,hb⟩;replace BK366:=bkb BK366 hb;replace HB:=hbs hb))
   go_ret
   exact ⟨er_,hb_⟩
  ·replace c13:=Bool.eq_false_iff.mpr c13
   subst c13
   have H1 : (some true) = some r:=by rw [if_neg (show ¬ (false = true) by decide)] at H;exact H
   clear H
   have H:=H1
   clear H1
   obtain rfl:=Option.some.inj H
   go_enter Try.func47,Try.ntmps47
   go_wp2_with (first|((with_reducible refine gate_dst (N:=3) rfl ?_);refine box_ev (N:=3) (cs:=#[.int .i64 a0_0,.int .i64 a0_1,.slice A0_2 l0_2.length c0_2]) (t:=24) ?_;intro gb366 hg w17 hbox hb;have BK366:=Aside0.mk (hbox);have GW366 : Aside0 (w.heap.size ≤ gb366):=gsz hg;have GE366:=GW366;replace HB:=hbs hb;clear hb hbox hg;have p367 : 0 ≤ (a2 : Int):=of_decide_eq_true (by first|(with_reducible assumption)|assumption);have q367 : a2 < (l1.length : Int):=of_decide_eq_true (by first|(with_reducible assumption)|assumption);obtain ⟨ad367,e367,hx367_0⟩:=Kd.at_int HR1.out a2 p367 q367;cases e367;replace hx367_0:=(HB.out.cell (World.block_lt_of_cell? w _ hx367_0)).trans hx367_0;replace p367:=eq_true p367;replace q367:=eq_true q367;obtain ⟨_,_,_,_,_,_⟩:=cells3 BK366.out)|(go_at_call 51;(with_reducible refine (hinterlandref02_Sea.calls k a0_0 a0_1 _ _ l0_2 a2 false _ ?_ ?_ A12.out).mono ?_);exact cq HR0_2;exact HC0_2.out;rintro e w19 ⟨rfl,hb⟩;replace BK366:=bkb BK366 hb;replace HB:=hbs hb))
   go_ret
   exact ⟨er_,hb_⟩
 rw [if_neg c11] at H
 have c11b0:=bqf c11
 have c11b1:=bnt c11
 by_cases c20 : (rd l1 a2) = 2
 ·rw [if_pos c20] at H
  have c20b0:=bqt c20
  have c20b1:=bnf c20
  clear c20
  replace H:=Option.bind_eq_some_iff.mp H
  obtain ⟨t370,A210,H⟩:=H
  replace H : (if t370 = true then (some false) else (some true)) = some r:=H
  have A21:=Aside0.mk A210
  clear A210
  by_cases c22 : t370 = true
  ·subst c22
   have H1 : (some false) = some r:=by rw [if_pos rfl] at H;exact H
   clear H
   have H:=H1
   clear H1
   obtain rfl:=Option.some.inj H
   go_enter Try.func47,Try.ntmps47
   go_wp2_with (first|((with_reducible refine gate_dst (N:=3) rfl ?_);refine box_ev (N:=3) (cs:=#[.int .i64 a0_0,.int .i64 a0_1,.slice A0_2 l0_2.length c0_2]) (t:=24) ?_;intro gb366 hg w23 hbox hb;have BK366:=Aside0.mk (hbox);have GW366 : Aside0 (w.heap.size ≤ gb366):=gsz hg;have GE366:=GW366;replace HB:=hbs hb;clear hb hbox hg;have p367 : 0 ≤ (a2 : Int):=of_decide_eq_true (by first|(with_reducible assumption)|assumption);have q367 : a2 < (l1.length : Int):=of_decide_eq_true (by first|(with_reducible assumption)|assumption);obtain ⟨ad367,e367,hx367_0⟩:=Kd.at_int HR1.out a2 p367 q367;cases e367;replace hx367_0:=(HB.out.cell (World.block_lt_of_cell? w _ hx367_0)).trans hx367_0;replace p367:=eq_true p367;replace q367:=eq_true q367;obtain ⟨_,_,_,_,_,_⟩:=cells3 BK366.out)|(go_at_call 51;(with_reducible refine (hinterlandref02_Sea.calls k a0_0 a0_1 _ _ l0_2 a2 true _ ?_ ?_ A21.out).mono ?_);exact cq HR0_2;exact HC0_2.out;rintro e w25 ⟨rfl,hb⟩;replace BK366:=bkb BK366 hb;replace HB:=hbs hb))
   go_ret
   exact ⟨er_,hb_⟩
  ·replace c22:=Bool.eq_false_iff.mpr c22
   subst c22
   have H1 : (some true) = some r:=by rw [if_neg (show ¬ (false = true) by decide)] at H;exact H
   clear H
   have H:=H1
   clear H1
   obtain rfl:=Option.some.inj H
   go_enter Try.func47,Try.ntmps47
   go_wp2_with (first|((with_reducible refine gate_dst (N:=3) rfl ?_);refine box_ev (N:=3) (cs:=#[.int .i64 a0_0,.int .i64 a0_1,.slice A0_2 l0_2.length c0_2]) (t:=24) ?_;intro gb366 hg w26 hbox hb;have BK366:=Aside0.mk (hbox);have GW366 : Aside0 (w.heap.size ≤ gb366):=gsz hg;have GE366:=GW366;replace HB:=hbs hb;clear hb hbox hg;have p367 : 0 ≤ (a2 : Int):=of_decide_eq_true (by first|(with_reducible assumption)|assumption);have q367 : a2 < (l1.length : Int):=of_decide_eq_true (by first|(with_reducible assumption)|assumption);obtain ⟨ad367,e367,hx367_0⟩:=Kd.at_int HR1.out a2 p367 q367;cases e367;replace hx367_0:=(HB.out.cell (World.block_lt_of_cell? w _ hx367_0)).trans hx367_0;replace p367:=eq_true p367;replace q367:=eq_true q367;obtain ⟨_,_,_,_,_,_⟩:=cells3 BK366.out)|(go_at_call 51;(with_reducible refine (hinterlandref02_Sea.calls k a0_0 a0_1 _ _ l0_2 a2 false _ ?_ ?_ A21.out).mono ?_);exact cq HR0_2;exact HC0_2.out;rintro e w28 ⟨rfl,hb⟩;replace BK366:=bkb BK366 hb;replace HB:=hbs hb))
   go_ret
   exact ⟨er_,hb_⟩
 ·rw [if_neg c20] at H
  have c20b0:=bqf c20
  have c20b1:=bnt c20
  obtain rfl:=Option.some.inj H
  go_enter Try.func47,Try.ntmps47
  go_wp2_with (first|((with_reducible refine gate_dst (N:=3) rfl ?_);refine box_ev (N:=3) (cs:=#[.int .i64 a0_0,.int .i64 a0_1,.slice A0_2 l0_2.length c0_2]) (t:=24) ?_;intro gb366 hg w29 hbox hb;have BK366:=Aside0.mk (hbox);have GW366 : Aside0 (w.heap.size ≤ gb366):=gsz hg;have GE366:=GW366;replace HB:=hbs hb;clear hb hbox hg;have p367 : 0 ≤ (a2 : Int):=of_decide_eq_true (by first|(with_reducible assumption)|assumption);have q367 : a2 < (l1.length : Int):=of_decide_eq_true (by first|(with_reducible assumption)|assumption);obtain ⟨ad367,e367,hx367_0⟩:=Kd.at_int HR1.out a2 p367 q367;cases e367;replace hx367_0:=(HB.out.cell (World.block_lt_of_cell? w _ hx367_0)).trans hx367_0;replace p367:=eq_true p367;replace q367:=eq_true q367))
  go_ret
  exact ⟨er_,hb_⟩

/-! ### hinterlandref02_side: function 66 -/
def hinterlandref02_side.f (a0 : Int) : Option (Bool) := if a0 ≥ 4 then (some (decide (a0 ≤ 32))) else (some false)
set_option maxHeartbeats 8000000 in
set_option maxRecDepth 100000 in
theorem hinterlandref02_side.calls (a0 : Int) (r : Bool) (w : World) (h : hinterlandref02_side.f a0 = some r) :
  Calls Try.prog 66 #[.int .i64 a0] w fun e w' => e = .returned (.bool r) ∧ Drawn0 w w':=by
 have H : (if a0 ≥ 4 then (some (decide (a0 ≤ 32))) else (some false)) = some r:=h
 clear h
 by_cases c2 : a0 ≥ 4
 ·rw [if_pos c2] at H
  have c2b0 : decide (4 ≤ a0) = true:=decide_eq_true c2
  clear c2
  obtain rfl:=Option.some.inj H
  go_enter Try.func66,Try.ntmps66
  go_wp2
  go_ret
  exact ⟨by first|rfl|(simp;done)|(simp [*];done),by repeat (first|exact Drawn0.refl _|apply Drawn0.step)⟩
 ·rw [if_neg c2] at H
  have c2b0 : decide (4 ≤ a0) = false:=decide_eq_false c2
  clear c2
  obtain rfl:=Option.some.inj H
  go_enter Try.func66,Try.ntmps66
  go_wp2
  go_ret
  exact ⟨by first|rfl|(simp;done)|(simp [*];done),by repeat (first|exact Drawn0.refl _|apply Drawn0.step)⟩

/-! ### hinterlandref02_Apart: function 67 -/
def hinterlandref02_Apart.f (a0 : Int) (a1 : Int) : Option (Int) := if a0 < a1 then (some (wrap64 (a1 - a0))) else (some (wrap64 (a0 - a1)))
set_option maxHeartbeats 8000000 in
set_option maxRecDepth 100000 in
theorem hinterlandref02_Apart.calls (a0 : Int) (a1 : Int) (r : Int) (w : World) (h : hinterlandref02_Apart.f a0 a1 = some r) :
  Calls Try.prog 67 #[.int .i64 a0,.int .i64 a1] w fun e w' => e = .returned (.int .i64 r) ∧ Drawn0 w w':=by
 have H : (if a0 < a1 then (some (wrap64 (a1 - a0))) else (some (wrap64 (a0 - a1)))) = some r:=h
 clear h
 by_cases c3 : a0 < a1
 ·rw [if_pos c3] at H
  have c3b0 : decide (a0 < a1) = true:=decide_eq_true c3
  clear c3
  obtain rfl:=Option.some.inj H
  go_enter Try.func67,Try.ntmps67
  go_wp2
  go_ret
  exact ⟨by first|rfl|(simp;done)|(simp [*];done),by repeat (first|exact Drawn0.refl _|apply Drawn0.step)⟩
 ·rw [if_neg c3] at H
  have c3b0 : decide (a0 < a1) = false:=decide_eq_false c3
  clear c3
  obtain rfl:=Option.some.inj H
  go_enter Try.func67,Try.ntmps67
  go_wp2
  go_ret
  exact ⟨by first|rfl|(simp;done)|(simp [*];done),by repeat (first|exact Drawn0.refl _|apply Drawn0.step)⟩

/-! ### hinterlandref02_Validate: function 48 -/
mutual
def hinterlandref02_Validate.j0 : Nat → Bool → Int → Int → List Int → Option (Int)
 | 0,_,_,_,_ => none
 | k + 1,x29,x372000,x372001,x372002 => if x29 = true then (some 1) else (hinterlandref02_Validate.l0 k x372002 (x372002.length : Int) 0 x372000 x372001 x372002)
def hinterlandref02_Validate.l0 : Nat → List Int → Int → Int → Int → Int → List Int → Option (Int)
 | 0,_,_,_,_,_,_ => none
 | k + 1,x31,x32,x33,x372000,x372001,x372002 => if x33 < x32 then (if 0 ≤ x33 then (if x33 < (x31.length : Int) then (if (rd x31 x33) < 0 then (some 1) else (if (rd x31 x33) > 15 then (some 1) else (hinterlandref02_Validate.l0 k x31 x32 (wrap64 (x33 + 1)) x372000 x372001 x372002))) else (none)) else (none)) else (hinterlandref02_Validate.l1 k x372002 (x372002.length : Int) 0 x372000 x372001 x372002)
def hinterlandref02_Validate.l1 : Nat → List Int → Int → Int → Int → Int → List Int → Option (Int)
 | 0,_,_,_,_,_,_ => none
 | k + 1,x45,x46,x47,x372000,x372001,x372002 => if x47 < x46 then (if 0 ≤ x47 then (if x47 < (x45.length : Int) then (if (wrap64 (x372000 + 1)) = 0 then (none) else (if (Int.tmod x47 (wrap64 (x372000 + 1))) > 0 then (if 0 ≤ (wrap64 (x47 - 1)) then (if (wrap64 (x47 - 1)) < (x372002.length : Int) then ((hinterlandref02_Apart.f (rd x45 x47) (rd x372002 (wrap64 (x47 - 1)))).bind fun t377 => (if t377 > 1 then (some 5) else (if x47 > x372000 then (if 0 ≤ (wrap64 ((wrap64 (x47 - x372000)) - 1)) then (if (wrap64 ((wrap64 (x47 - x372000)) - 1)) < (x372002.length : Int) then ((hinterlandref02_Apart.f (rd x45 x47) (rd x372002 (wrap64 ((wrap64 (x47 - x372000)) - 1)))).bind fun t379 => (if t379 > 1 then (some 5) else (hinterlandref02_Validate.l1 k x45 x46 (wrap64 (x47 + 1)) x372000 x372001 x372002))) else (none)) else (none)) else (hinterlandref02_Validate.l1 k x45 x46 (wrap64 (x47 + 1)) x372000 x372001 x372002)))) else (none)) else (none)) else (if x47 > x372000 then (if 0 ≤ (wrap64 ((wrap64 (x47 - x372000)) - 1)) then (if (wrap64 ((wrap64 (x47 - x372000)) - 1)) < (x372002.length : Int) then ((hinterlandref02_Apart.f (rd x45 x47) (rd x372002 (wrap64 ((wrap64 (x47 - x372000)) - 1)))).bind fun t381 => (if t381 > 1 then (some 5) else (hinterlandref02_Validate.l1 k x45 x46 (wrap64 (x47 + 1)) x372000 x372001 x372002))) else (none)) else (none)) else (hinterlandref02_Validate.l1 k x45 x46 (wrap64 (x47 + 1)) x372000 x372001 x372002)))) else (none)) else (none)) else (some 0)
end
def hinterlandref02_Validate.f (k : Nat) (a0_0 : Int) (a0_1 : Int) (l0_2 : List Int) : Option (Int) := (hinterlandref02_side.f a0_0).bind fun t372 => (if t372 = true then ((hinterlandref02_side.f a0_1).bind fun t373 => (if t373 = true then (hinterlandref02_Validate.j0 k ((l0_2.length : Int) != (wrap64 ((wrap64 (a0_0 + 1)) * (wrap64 (a0_1 + 1))))) a0_0 a0_1 l0_2) else (hinterlandref02_Validate.j0 k true a0_0 a0_1 l0_2))) else (hinterlandref02_Validate.j0 k true a0_0 a0_1 l0_2))
theorem hinterlandref02_Validate.mono_l : ∀ k, (∀ y0 y1 y2 y3, LeO (hinterlandref02_Validate.j0 k y0 y1 y2 y3) (hinterlandref02_Validate.j0 (k + 1) y0 y1 y2 y3)) ∧ (∀ y0 y1 y2 y3 y4 y5, LeO (hinterlandref02_Validate.l0 k y0 y1 y2 y3 y4 y5) (hinterlandref02_Validate.l0 (k + 1) y0 y1 y2 y3 y4 y5)) ∧ (∀ y0 y1 y2 y3 y4 y5, LeO (hinterlandref02_Validate.l1 k y0 y1 y2 y3 y4 y5) (hinterlandref02_Validate.l1 (k + 1) y0 y1 y2 y3 y4 y5))
 | 0 => ⟨fun _ _ _ _ r h => by simp [hinterlandref02_Validate.j0] at h,fun _ _ _ _ _ _ r h => by simp [hinterlandref02_Validate.l0] at h,fun _ _ _ _ _ _ r h => by simp [hinterlandref02_Validate.l1] at h⟩
 | k + 1 => by
  obtain ⟨ih0,ih1,ih2⟩:=hinterlandref02_Validate.mono_l k
  refine ⟨?_,?_,?_⟩
  ·intro y0 y1 y2 y3
   unfold hinterlandref02_Validate.j0
   repeat' first
   | (with_reducible exact ih0 _ _ _ _)
   | (with_reducible exact ih1 _ _ _ _ _ _)
   | (with_reducible exact ih2 _ _ _ _ _ _)
   | (with_reducible exact LeO.refl _)
   | (with_reducible exact LeO.none _)
   | (with_reducible refine LeO.ite ?_ ?_)
   | (with_reducible refine LeO.bind ?_ (fun _ => ?_))
   | exact ih0 _ _ _ _
   | exact ih1 _ _ _ _ _ _
   | exact ih2 _ _ _ _ _ _
   | exact LeO.none _
   | refine LeO.ite ?_ ?_
   | refine LeO.bind ?_ (fun _ => ?_)
  ·intro y0 y1 y2 y3 y4 y5
   unfold hinterlandref02_Validate.l0
   repeat' first
   | (with_reducible exact ih0 _ _ _ _)
   | (with_reducible exact ih1 _ _ _ _ _ _)
   | (with_reducible exact ih2 _ _ _ _ _ _)
   | (with_reducible exact LeO.refl _)
   | (with_reducible exact LeO.none _)
   | (with_reducible refine LeO.ite ?_ ?_)
   | (with_reducible refine LeO.bind ?_ (fun _ => ?_))
   | exact ih0 _ _ _ _
   | exact ih1 _ _ _ _ _ _
   | exact ih2 _ _ _ _ _ _
   | exact LeO.none _
   | refine LeO.ite ?_ ?_
   | refine LeO.bind ?_ (fun _ => ?_)
  ·intro y0 y1 y2 y3 y4 y5
   unfold hinterlandref02_Validate.l1
   repeat' first
   | (with_reducible exact ih0 _ _ _ _)
   | (with_reducible exact ih1 _ _ _ _ _ _)
   | (with_reducible exact ih2 _ _ _ _ _ _)
   | (with_reducible exact LeO.refl _)
   | (with_reducible exact LeO.none _)
   | (with_reducible refine LeO.ite ?_ ?_)
   | (with_reducible refine LeO.bind ?_ (fun _ => ?_))
   | exact ih0 _ _ _ _
   | exact ih1 _ _ _ _ _ _
   | exact ih2 _ _ _ _ _ _
   | exact LeO.none _
   | refine LeO.ite ?_ ?_
   | refine LeO.bind ?_ (fun _ => ?_)
theorem hinterlandref02_Validate.mono : ∀ a0 a1 a2 k, LeO (hinterlandref02_Validate.f k a0 a1 a2) (hinterlandref02_Validate.f (k + 1) a0 a1 a2) := by
 intro a0 a1 a2 k
 obtain ⟨ih0,ih1,ih2⟩:=hinterlandref02_Validate.mono_l k
 unfold hinterlandref02_Validate.f
 repeat' first
   | (with_reducible exact ih0 _ _ _ _)
   | (with_reducible exact ih1 _ _ _ _ _ _)
   | (with_reducible exact ih2 _ _ _ _ _ _)
   | (with_reducible exact LeO.refl _)
   | (with_reducible exact LeO.none _)
   | (with_reducible refine LeO.ite ?_ ?_)
   | (with_reducible refine LeO.bind ?_ (fun _ => ?_))
   | exact ih0 _ _ _ _
   | exact ih1 _ _ _ _ _ _
   | exact ih2 _ _ _ _ _ _
   | exact LeO.none _
   | refine LeO.ite ?_ ?_
   | refine LeO.bind ?_ (fun _ => ?_)
set_option maxHeartbeats 8000000 in
set_option maxRecDepth 100000 in
theorem hinterlandref02_Validate.calls (k : Nat) (a0_0 : Int) (a0_1 : Int) (A0_2 : Option Addr) (c0_2 : Nat) (l0_2 : List Int) (r : Int) (w : World) (hr0_2 : Kd.C (Kd.int .i64) w A0_2 l0_2.length l0_2) (hc0_2 : l0_2.length ≤ c0_2) (h : hinterlandref02_Validate.f k a0_0 a0_1 l0_2 = some r) :
  Calls Try.prog 48 #[.agg #[.int .i64 a0_0,.int .i64 a0_1,.slice A0_2 l0_2.length c0_2]] w fun e w' => e = .returned (.int .i64 r) ∧ Below w.heap.size w w':=by
 have hu24:=Try.underlying24
 have HR0_2:=Aside0.mk hr0_2
 have HC0_2:=Aside0.mk hc0_2
 clear hr0_2 hc0_2
 have HB:=Aside0.mk (Below.refl w.heap.size w)
 have H : ((hinterlandref02_side.f a0_0).bind fun t372 => (if t372 = true then ((hinterlandref02_side.f a0_1).bind fun t373 => (if t373 = true then (hinterlandref02_Validate.j0 k ((l0_2.length : Int) != (wrap64 ((wrap64 (a0_0 + 1)) * (wrap64 (a0_1 + 1))))) a0_0 a0_1 l0_2) else (hinterlandref02_Validate.j0 k true a0_0 a0_1 l0_2))) else (hinterlandref02_Validate.j0 k true a0_0 a0_1 l0_2))) = some r:=h
 clear h
 have HC2:=Aside0.mk H
 clear H
 go_enter Try.func48,Try.ntmps48
 go_upto_region 1 with (first|((with_reducible refine gate_dst (N:=1) rfl ?_);(try (refine gate_guard (by rfl) ?_;dsimp only));refine box_ev (N:=1) (cs:=#[.int .i64 a0_0,.int .i64 a0_1,.slice A0_2 l0_2.length c0_2]) (t:=24) ?_;intro gb371 hg w3 hbox hb;have BK371:=Aside0.mk (hbox);have GW371 : Aside0 (w.heap.size ≤ gb371):=gsz hg;have GE371:=GW371;replace HB:=hbs hb;clear hb hbox hg))
 (try simp only [Act.put,List.setIfInBounds_toArray,List.set_cons_zero,List.set_cons_succ])
 go_cut [29] (fun v29 wc => ∃ (kq : Nat) (x29_1 : Bool),v29 = .bool x29_1 ∧ Aside0 (hinterlandref02_Validate.j0 kq x29_1 a0_0 a0_1 l0_2 = some r) ∧ Aside0 (kq ≤ k) ∧ Aside0 (wc.heap[gb371]? = some (.cells #[.int .i64 a0_0,.int .i64 a0_1,(.slice A0_2 l0_2.length c0_2)] 24 (0,0))) ∧ Aside0 (Below w.heap.size w wc))
 case first =>
  have H:=HC2.out
  clear HC2
  replace H:=Option.bind_eq_some_iff.mp H
  obtain ⟨t372,A40,H⟩:=H
  replace H : (if t372 = true then ((hinterlandref02_side.f a0_1).bind fun t373 => (if t373 = true then (hinterlandref02_Validate.j0 k ((l0_2.length : Int) != (wrap64 ((wrap64 (a0_0 + 1)) * (wrap64 (a0_1 + 1))))) a0_0 a0_1 l0_2) else (hinterlandref02_Validate.j0 k true a0_0 a0_1 l0_2))) else (hinterlandref02_Validate.j0 k true a0_0 a0_1 l0_2)) = some r:=H
  have A4:=Aside0.mk A40
  clear A40
  by_cases c5 : t372 = true
  ·subst c5
   have H1 : ((hinterlandref02_side.f a0_1).bind fun t373 => (if t373 = true then (hinterlandref02_Validate.j0 k ((l0_2.length : Int) != (wrap64 ((wrap64 (a0_0 + 1)) * (wrap64 (a0_1 + 1))))) a0_0 a0_1 l0_2) else (hinterlandref02_Validate.j0 k true a0_0 a0_1 l0_2))) = some r:=by rw [if_pos rfl] at H;exact H
   clear H
   have H:=H1
   clear H1
   replace H:=Option.bind_eq_some_iff.mp H
   obtain ⟨t373,A60,H⟩:=H
   replace H : (if t373 = true then (hinterlandref02_Validate.j0 k ((l0_2.length : Int) != (wrap64 ((wrap64 (a0_0 + 1)) * (wrap64 (a0_1 + 1))))) a0_0 a0_1 l0_2) else (hinterlandref02_Validate.j0 k true a0_0 a0_1 l0_2)) = some r:=H
   have A6:=Aside0.mk A60
   clear A60
   by_cases c7 : t373 = true
   ·subst c7
    have H1 : (hinterlandref02_Validate.j0 k ((l0_2.length : Int) != (wrap64 ((wrap64 (a0_0 + 1)) * (wrap64 (a0_1 + 1))))) a0_0 a0_1 l0_2) = some r:=by rw [if_pos rfl] at H;exact H
    clear H
    have H:=H1
    clear H1
    have H':=Aside0.mk H
    clear H
    obtain ⟨_,_,_,_,_,_⟩:=cells3 BK371.out
    go_wp2_with (first|((with_reducible refine gate_callee (f:=66) rfl ?_);refine goesL_ (some 9) rfl rfl Try.func66 (by kernel_rfl) rfl #[.int .i64 a0_0] rfl ga_ ?_;(with_reducible refine (hinterlandref02_side.calls a0_0 true _ A4.out).mono ?_);rintro e w' ⟨rfl,⟨nd,rfl⟩⟩;refine ⟨_,rfl,?_⟩)|(go_at_call 66;(with_reducible refine (hinterlandref02_side.calls a0_1 true _ A6.out).mono ?_);rintro e w' ⟨rfl,⟨nd,rfl⟩⟩))
    go_meet
    case rel => exact ⟨_,(((l0_2.length : Int) != (wrap64 ((wrap64 (a0_0 + 1)) * (wrap64 (a0_1 + 1)))))),(by first|rfl|(simp;done)|(simp [*];done)),H',⟨by first|omega|exact Nat.le_refl _⟩,⟨blk_up BK371.out⟩,⟨hb_⟩⟩
   ·replace c7:=Bool.eq_false_iff.mpr c7
    subst c7
    have H1 : (hinterlandref02_Validate.j0 k true a0_0 a0_1 l0_2) = some r:=by rw [if_neg (show ¬ (false = true) by decide)] at H;exact H
    clear H
    have H:=H1
    clear H1
    have H':=Aside0.mk H
    clear H
    obtain ⟨_,_,_,_,_,_⟩:=cells3 BK371.out
    go_wp2_with (first|((with_reducible refine gate_callee (f:=66) rfl ?_);refine goesL_ (some 9) rfl rfl Try.func66 (by kernel_rfl) rfl #[.int .i64 a0_0] rfl ga_ ?_;(with_reducible refine (hinterlandref02_side.calls a0_0 true _ A4.out).mono ?_);rintro e w' ⟨rfl,⟨nd,rfl⟩⟩;refine ⟨_,rfl,?_⟩)|(go_at_call 66;(with_reducible refine (hinterlandref02_side.calls a0_1 false _ A6.out).mono ?_);rintro e w' ⟨rfl,⟨nd,rfl⟩⟩))
    go_meet
    case rel => exact ⟨_,(true),(by first|rfl|(simp;done)|(simp [*];done)),H',⟨by first|omega|exact Nat.le_refl _⟩,⟨blk_up BK371.out⟩,⟨hb_⟩⟩
  ·replace c5:=Bool.eq_false_iff.mpr c5
   subst c5
   have H1 : (hinterlandref02_Validate.j0 k true a0_0 a0_1 l0_2) = some r:=by rw [if_neg (show ¬ (false = true) by decide)] at H;exact H
   clear H
   have H:=H1
   clear H1
   have H':=Aside0.mk H
   clear H
   obtain ⟨_,_,_,_,_,_⟩:=cells3 BK371.out
   go_wp2_with (first|((with_reducible refine gate_callee (f:=66) rfl ?_);refine goesL_ (some 9) rfl rfl Try.func66 (by kernel_rfl) rfl #[.int .i64 a0_0] rfl ga_ ?_;(with_reducible refine (hinterlandref02_side.calls a0_0 false _ A4.out).mono ?_);rintro e w' ⟨rfl,⟨nd,rfl⟩⟩;refine ⟨_,rfl,?_⟩))
   go_meet
   case rel => exact ⟨_,(true),(by first|rfl|(simp;done)|(simp [*];done)),H',⟨by first|omega|exact Nat.le_refl _⟩,⟨blk_up BK371.out⟩,⟨hb_⟩⟩
 case rest =>
  clear HC2
  obtain ⟨kq,x29_1,rfl,HA,HJ1,BK371,HB⟩:=hcut
  cases kq with
  | zero => exact absurd HA.out (by simp [hinterlandref02_Validate.j0])
  | succ kj1 =>
   have H:=HA.out
   clear HA
   simp only [hinterlandref02_Validate.j0] at H
   by_cases c11 : x29_1 = true
   ·subst c11
    have H1 : (some 1) = some r:=by rw [if_pos rfl] at H;exact H
    clear H
    have H:=H1
    clear H1
    obtain rfl:=Option.some.inj H
    go_wp2
    go_ret
    exact ⟨er_,hb_⟩
   ·replace c11:=Bool.eq_false_iff.mpr c11
    subst c11
    have H1 : (hinterlandref02_Validate.l0 kj1 l0_2 (l0_2.length : Int) 0 a0_0 a0_1 l0_2) = some r:=by rw [if_neg (show ¬ (false = true) by decide)] at H;exact H
    clear H
    have H:=H1
    clear H1
    have H':=Aside0.mk H
    clear H
    obtain ⟨_,_,_,_,_,_⟩:=cells3 BK371.out
    go_wp2
    go_loopg [33] kj1 (fun kq v33 w' => ∃ (x33_2 : Int),v33 = .int .i64 x33_2 ∧ Aside0 (hinterlandref02_Validate.l0 kq l0_2 (l0_2.length : Int) x33_2 a0_0 a0_1 l0_2 = some r) ∧ Aside0 (kq ≤ kj1) ∧ Aside0 (w'.heap[gb371]? = some (.cells #[.int .i64 a0_0,.int .i64 a0_1,(.slice A0_2 l0_2.length c0_2)] 24 (0,0))) ∧ Aside0 (Below w.heap.size w w'))
    case atStart => exact ⟨(0),(by first|rfl|(simp;done)|(simp [*];done)),H',⟨Nat.le_refl _⟩,⟨blk_up BK371.out⟩,⟨hb_⟩⟩
    case round =>
     clear H'
     obtain ⟨x33_2,rfl,HA,HK2,BK371,HB⟩:=hrel
     cases gk with
     | zero => exact absurd HA.out (by simp [hinterlandref02_Validate.l0])
     | succ k2 =>
      have H:=HA.out
      clear HA
      simp only [hinterlandref02_Validate.l0] at H
      by_cases c13 : x33_2 < (l0_2.length : Int)
      ·rw [if_pos c13] at H
       have c13b0 : decide (x33_2 < (l0_2.length : Int)) = true:=decide_eq_true c13
       clear c13
       replace H:=ifp_ H;obtain ⟨c14,H⟩:=H
       have c14b0 : decide (0 ≤ x33_2) = true:=decide_eq_true c14
       clear c14
       replace H:=ifp_ H;obtain ⟨c15,H⟩:=H
       have c15b0 : decide (x33_2 < (l0_2.length : Int)) = true:=decide_eq_true c15
       clear c15
       by_cases c16 : (rd l0_2 x33_2) < 0
       ·rw [if_pos c16] at H
        have c16b0 : decide ((rd l0_2 x33_2) < 0) = true:=decide_eq_true c16
        clear c16
        obtain rfl:=Option.some.inj H
        have p374 : 0 ≤ (x33_2 : Int):=of_decide_eq_true (by first|(with_reducible assumption)|assumption)
        have q374 : x33_2 < (l0_2.length : Int):=of_decide_eq_true (by first|(with_reducible assumption)|assumption)
        obtain ⟨ad374,e374,hx374_0⟩:=Kd.at_int HR0_2.out x33_2 p374 q374
        cases e374
        replace hx374_0:=(HB.out.cell (World.block_lt_of_cell? w _ hx374_0)).trans hx374_0
        replace p374:=eq_true p374
        replace q374:=eq_true q374
        go_wp2
        go_ret
        exact ⟨er_,hb_⟩
       rw [if_neg c16] at H
       have c16b0 : decide ((rd l0_2 x33_2) < 0) = false:=decide_eq_false c16
       clear c16
       by_cases c17 : (rd l0_2 x33_2) > 15
       ·rw [if_pos c17] at H
        have c17b0 : decide (15 < (rd l0_2 x33_2)) = true:=decide_eq_true c17
        clear c17
        obtain rfl:=Option.some.inj H
        have p374 : 0 ≤ (x33_2 : Int):=of_decide_eq_true (by first|(with_reducible assumption)|assumption)
        have q374 : x33_2 < (l0_2.length : Int):=of_decide_eq_true (by first|(with_reducible assumption)|assumption)
        obtain ⟨ad374,e374,hx374_0⟩:=Kd.at_int HR0_2.out x33_2 p374 q374
        cases e374
        replace hx374_0:=(HB.out.cell (World.block_lt_of_cell? w _ hx374_0)).trans hx374_0
        replace p374:=eq_true p374
        replace q374:=eq_true q374
        go_wp2
        go_ret
        exact ⟨er_,hb_⟩
       ·rw [if_neg c17] at H
        have c17b0 : decide (15 < (rd l0_2 x33_2)) = false:=decide_eq_false c17
        clear c17
        have H':=Aside0.mk H
        clear H
        have p374 : 0 ≤ (x33_2 : Int):=of_decide_eq_true (by first|(with_reducible assumption)|assumption)
        have q374 : x33_2 < (l0_2.length : Int):=of_decide_eq_true (by first|(with_reducible assumption)|assumption)
        obtain ⟨ad374,e374,hx374_0⟩:=Kd.at_int HR0_2.out x33_2 p374 q374
        cases e374
        replace hx374_0:=(HB.out.cell (World.block_lt_of_cell? w _ hx374_0)).trans hx374_0
        replace p374:=eq_true p374
        replace q374:=eq_true q374
        go_wp2
        go_roundg k2
        case measure => have:=HJ1.out;have:=HK2.out;omega
        case rel => exact ⟨(wrap64 (x33_2 + 1)),(by first|rfl|(simp;done)|(simp [*];done)),H',⟨by have:=HJ1.out;have:=HK2.out;omega⟩,⟨blk_up BK371.out⟩,⟨hb_⟩⟩
      rw [if_neg c13] at H
      have c13b0 : decide (x33_2 < (l0_2.length : Int)) = false:=decide_eq_false c13
      clear c13
      have H':=Aside0.mk H
      clear H
      obtain ⟨_,_,_,_,_,_⟩:=cells3 BK371.out
      go_wp2
      go_loopg [47] k2 (fun kq v47 w' => ∃ (x47_3 : Int),v47 = .int .i64 x47_3 ∧ Aside0 (hinterlandref02_Validate.l1 kq l0_2 (l0_2.length : Int) x47_3 a0_0 a0_1 l0_2 = some r) ∧ Aside0 (kq ≤ k2) ∧ Aside0 (w'.heap[gb371]? = some (.cells #[.int .i64 a0_0,.int .i64 a0_1,(.slice A0_2 l0_2.length c0_2)] 24 (0,0))) ∧ Aside0 (Below w.heap.size w w'))
      case atStart => exact ⟨(0),(by first|rfl|(simp;done)|(simp [*];done)),H',⟨Nat.le_refl _⟩,⟨blk_up BK371.out⟩,⟨hb_⟩⟩
      case round =>
       clear H'
       obtain ⟨x47_3,rfl,HA,HK3,BK371,HB⟩:=hrel
       cases gk with
       | zero => exact absurd HA.out (by simp [hinterlandref02_Validate.l1])
       | succ k3 =>
        have H:=HA.out
        clear HA
        simp only [hinterlandref02_Validate.l1] at H
        by_cases c19 : x47_3 < (l0_2.length : Int)
        rotate_left
        ·rw [if_neg c19] at H
         have c19b0 : decide (x47_3 < (l0_2.length : Int)) = false:=decide_eq_false c19
         clear c19
         obtain rfl:=Option.some.inj H
         go_wp2
         go_ret
         exact ⟨er_,hb_⟩
        rw [if_pos c19] at H
        have c19b0 : decide (x47_3 < (l0_2.length : Int)) = true:=decide_eq_true c19
        clear c19
        replace H:=ifp_ H;obtain ⟨c20,H⟩:=H
        have c20b0 : decide (0 ≤ x47_3) = true:=decide_eq_true c20
        clear c20
        replace H:=ifp_ H;obtain ⟨c21,H⟩:=H
        have c21b0 : decide (x47_3 < (l0_2.length : Int)) = true:=decide_eq_true c21
        clear c21
        replace H:=ifn_ H;obtain ⟨c22,H⟩:=H
        have c22b0 : ((wrap64 (a0_0 + 1)) == 0) = false:=beq_eq_false_iff_ne.mpr c22
        have c22b1 : ((wrap64 (a0_0 + 1)) != 0) = true:=bne_iff_ne.mpr c22
        by_cases c23 : (Int.tmod x47_3 (wrap64 (a0_0 + 1))) > 0
        rotate_left
        ·rw [if_neg c23] at H
         have c23b0 : decide (0 < (Int.tmod x47_3 (wrap64 (a0_0 + 1)))) = false:=decide_eq_false c23
         clear c23
         by_cases c39 : x47_3 > a0_0
         rotate_left
         ·rw [if_neg c39] at H
          have c39b0 : decide (a0_0 < x47_3) = false:=decide_eq_false c39
          clear c39
          have H':=Aside0.mk H
          clear H
          have p375 : 0 ≤ (x47_3 : Int):=of_decide_eq_true (by first|(with_reducible assumption)|assumption)
          have q375 : x47_3 < (l0_2.length : Int):=of_decide_eq_true (by first|(with_reducible assumption)|assumption)
          obtain ⟨ad375,e375,hx375_0⟩:=Kd.at_int HR0_2.out x47_3 p375 q375
          cases e375
          replace hx375_0:=(HB.out.cell (World.block_lt_of_cell? w _ hx375_0)).trans hx375_0
          replace p375:=eq_true p375
          replace q375:=eq_true q375
          obtain ⟨_,_,_,_,_,_⟩:=cells3 BK371.out
          go_wp2
          go_roundg k3
          case measure => have:=HJ1.out;have:=HK2.out;have:=HK3.out;omega
          case rel => exact ⟨(wrap64 (x47_3 + 1)),(by first|rfl|(simp;done)|(simp [*];done)),H',⟨by have:=HJ1.out;have:=HK2.out;have:=HK3.out;omega⟩,⟨blk_up BK371.out⟩,⟨hb_⟩⟩
         rw [if_pos c39] at H
         have c39b0 : decide (a0_0 < x47_3) = true:=decide_eq_true c39
         clear c39
         obtain ⟨ji40,hji40⟩ : ∃ j_ : Int,(wrap64 ((wrap64 (x47_3 - a0_0)) - 1)) = j_:=⟨_,rfl⟩
         replace H : (if 0 ≤ (ji40) then (if (ji40) < (l0_2.length : Int) then ((hinterlandref02_Apart.f (rd l0_2 x47_3) (rd l0_2 (ji40))).bind fun t381 => (if t381 > 1 then (some 5) else (hinterlandref02_Validate.l1 k3 l0_2 (l0_2.length : Int) (wrap64 (x47_3 + 1)) a0_0 a0_1 l0_2))) else (none)) else (none)) = some r:=by first|(rw [hji40] at H;exact H)|(simp only [hji40] at H ⊢;exact H)
         have hji40w : (IntKind.i64.wrap ((wrap64 (x47_3 - a0_0)) - 1)) = ji40:=(i64_w _).trans hji40
         replace H:=ifp_ H;obtain ⟨c41,H⟩:=H
         have c41b0 : decide (0 ≤ (ji40)) = true:=decide_eq_true c41
         clear c41
         replace H:=ifp_ H;obtain ⟨c42,H⟩:=H
         have c42b0 : decide ((ji40) < (l0_2.length : Int)) = true:=decide_eq_true c42
         clear c42
         replace H:=Option.bind_eq_some_iff.mp H
         obtain ⟨t381,A430,H⟩:=H
         replace H : (if t381 > 1 then (some 5) else (hinterlandref02_Validate.l1 k3 l0_2 (l0_2.length : Int) (wrap64 (x47_3 + 1)) a0_0 a0_1 l0_2)) = some r:=H
         have A43:=Aside0.mk A430
         clear A430
         by_cases c44 : t381 > 1
         ·rw [if_pos c44] at H
          have c44b0 : decide (1 < t381) = true:=decide_eq_true c44
          clear c44
          obtain rfl:=Option.some.inj H
          have p375 : 0 ≤ (x47_3 : Int):=of_decide_eq_true (by first|(with_reducible assumption)|assumption)
          have q375 : x47_3 < (l0_2.length : Int):=of_decide_eq_true (by first|(with_reducible assumption)|assumption)
          obtain ⟨ad375,e375,hx375_0⟩:=Kd.at_int HR0_2.out x47_3 p375 q375
          cases e375
          replace hx375_0:=(HB.out.cell (World.block_lt_of_cell? w _ hx375_0)).trans hx375_0
          replace p375:=eq_true p375
          replace q375:=eq_true q375
          obtain ⟨_,_,_,_,_,_⟩:=cells3 BK371.out
          have p380 : 0 ≤ ((ji40) : Int):=of_decide_eq_true (by first|(with_reducible assumption)|assumption)
          have q380 : (ji40) < (l0_2.length : Int):=of_decide_eq_true (by first|(with_reducible assumption)|assumption)
          obtain ⟨ad380,e380,hx380_0⟩:=Kd.at_int HR0_2.out (ji40) p380 q380
          obtain rfl : ad375 = ad380:=(by injection e380)
          replace hx380_0:=(HB.out.cell (World.block_lt_of_cell? w _ hx380_0)).trans hx380_0
          replace p380:=eq_true p380
          replace q380:=eq_true q380
          go_wp2_with (first|(go_at_call 67;(with_reducible refine (hinterlandref02_Apart.calls (rd l0_2 x47_3) (rd l0_2 (ji40)) t381 _ A43.out).mono ?_);rintro e w' ⟨rfl,⟨nd,rfl⟩⟩))
          go_ret
          exact ⟨by first|rfl|(simp [errW_none,errW_some] <;> rfl)|(simp only [← hji40];first|rfl|(simp [errW_none,errW_some] <;> rfl))|(simp [*,errW_none,errW_some] <;> rfl),hb_⟩
         ·rw [if_neg c44] at H
          have c44b0 : decide (1 < t381) = false:=decide_eq_false c44
          clear c44
          have H':=Aside0.mk H
          clear H
          have p375 : 0 ≤ (x47_3 : Int):=of_decide_eq_true (by first|(with_reducible assumption)|assumption)
          have q375 : x47_3 < (l0_2.length : Int):=of_decide_eq_true (by first|(with_reducible assumption)|assumption)
          obtain ⟨ad375,e375,hx375_0⟩:=Kd.at_int HR0_2.out x47_3 p375 q375
          cases e375
          replace hx375_0:=(HB.out.cell (World.block_lt_of_cell? w _ hx375_0)).trans hx375_0
          replace p375:=eq_true p375
          replace q375:=eq_true q375
          obtain ⟨_,_,_,_,_,_⟩:=cells3 BK371.out
          have p380 : 0 ≤ ((ji40) : Int):=of_decide_eq_true (by first|(with_reducible assumption)|assumption)
          have q380 : (ji40) < (l0_2.length : Int):=of_decide_eq_true (by first|(with_reducible assumption)|assumption)
          obtain ⟨ad380,e380,hx380_0⟩:=Kd.at_int HR0_2.out (ji40) p380 q380
          obtain rfl : ad375 = ad380:=(by injection e380)
          replace hx380_0:=(HB.out.cell (World.block_lt_of_cell? w _ hx380_0)).trans hx380_0
          replace p380:=eq_true p380
          replace q380:=eq_true q380
          go_wp2_with (first|(go_at_call 67;(with_reducible refine (hinterlandref02_Apart.calls (rd l0_2 x47_3) (rd l0_2 (ji40)) t381 _ A43.out).mono ?_);rintro e w' ⟨rfl,⟨nd,rfl⟩⟩))
          go_roundg k3
          case measure => have:=HJ1.out;have:=HK2.out;have:=HK3.out;omega
          case rel => exact ⟨(wrap64 (x47_3 + 1)),(by first|rfl|(simp;done)|(simp [*];done)),H',⟨by have:=HJ1.out;have:=HK2.out;have:=HK3.out;omega⟩,⟨blk_up BK371.out⟩,⟨hb_⟩⟩
        rw [if_pos c23] at H
        have c23b0 : decide (0 < (Int.tmod x47_3 (wrap64 (a0_0 + 1)))) = true:=decide_eq_true c23
        clear c23
        obtain ⟨ji24,hji24⟩ : ∃ j_ : Int,(wrap64 (x47_3 - 1)) = j_:=⟨_,rfl⟩
        replace H : (if 0 ≤ (ji24) then (if (ji24) < (l0_2.length : Int) then ((hinterlandref02_Apart.f (rd l0_2 x47_3) (rd l0_2 (ji24))).bind fun t377 => (if t377 > 1 then (some 5) else (if x47_3 > a0_0 then (if 0 ≤ (wrap64 ((wrap64 (x47_3 - a0_0)) - 1)) then (if (wrap64 ((wrap64 (x47_3 - a0_0)) - 1)) < (l0_2.length : Int) then ((hinterlandref02_Apart.f (rd l0_2 x47_3) (rd l0_2 (wrap64 ((wrap64 (x47_3 - a0_0)) - 1)))).bind fun t379 => (if t379 > 1 then (some 5) else (hinterlandref02_Validate.l1 k3 l0_2 (l0_2.length : Int) (wrap64 (x47_3 + 1)) a0_0 a0_1 l0_2))) else (none)) else (none)) else (hinterlandref02_Validate.l1 k3 l0_2 (l0_2.length : Int) (wrap64 (x47_3 + 1)) a0_0 a0_1 l0_2)))) else (none)) else (none)) = some r:=by first|(rw [hji24] at H;exact H)|(simp only [hji24] at H ⊢;exact H)
        have hji24w : (IntKind.i64.wrap (x47_3 - 1)) = ji24:=(i64_w _).trans hji24
        replace H:=ifp_ H;obtain ⟨c25,H⟩:=H
        have c25b0 : decide (0 ≤ (ji24)) = true:=decide_eq_true c25
        clear c25
        replace H:=ifp_ H;obtain ⟨c26,H⟩:=H
        have c26b0 : decide ((ji24) < (l0_2.length : Int)) = true:=decide_eq_true c26
        clear c26
        replace H:=Option.bind_eq_some_iff.mp H
        obtain ⟨t377,A270,H⟩:=H
        replace H : (if t377 > 1 then (some 5) else (if x47_3 > a0_0 then (if 0 ≤ (wrap64 ((wrap64 (x47_3 - a0_0)) - 1)) then (if (wrap64 ((wrap64 (x47_3 - a0_0)) - 1)) < (l0_2.length : Int) then ((hinterlandref02_Apart.f (rd l0_2 x47_3) (rd l0_2 (wrap64 ((wrap64 (x47_3 - a0_0)) - 1)))).bind fun t379 => (if t379 > 1 then (some 5) else (hinterlandref02_Validate.l1 k3 l0_2 (l0_2.length : Int) (wrap64 (x47_3 + 1)) a0_0 a0_1 l0_2))) else (none)) else (none)) else (hinterlandref02_Validate.l1 k3 l0_2 (l0_2.length : Int) (wrap64 (x47_3 + 1)) a0_0 a0_1 l0_2))) = some r:=H
        have A27:=Aside0.mk A270
        clear A270
        by_cases c28 : t377 > 1
        ·rw [if_pos c28] at H
         have c28b0 : decide (1 < t377) = true:=decide_eq_true c28
         clear c28
         obtain rfl:=Option.some.inj H
         have p375 : 0 ≤ (x47_3 : Int):=of_decide_eq_true (by first|(with_reducible assumption)|assumption)
         have q375 : x47_3 < (l0_2.length : Int):=of_decide_eq_true (by first|(with_reducible assumption)|assumption)
         obtain ⟨ad375,e375,hx375_0⟩:=Kd.at_int HR0_2.out x47_3 p375 q375
         cases e375
         replace hx375_0:=(HB.out.cell (World.block_lt_of_cell? w _ hx375_0)).trans hx375_0
         replace p375:=eq_true p375
         replace q375:=eq_true q375
         obtain ⟨_,_,_,_,_,_⟩:=cells3 BK371.out
         have p376 : 0 ≤ ((ji24) : Int):=of_decide_eq_true (by first|(with_reducible assumption)|assumption)
         have q376 : (ji24) < (l0_2.length : Int):=of_decide_eq_true (by first|(with_reducible assumption)|assumption)
         obtain ⟨ad376,e376,hx376_0⟩:=Kd.at_int HR0_2.out (ji24) p376 q376
         obtain rfl : ad375 = ad376:=(by injection e376)
         replace hx376_0:=(HB.out.cell (World.block_lt_of_cell? w _ hx376_0)).trans hx376_0
         replace p376:=eq_true p376
         replace q376:=eq_true q376
         go_wp2_with (first|(go_at_call 67;(with_reducible refine (hinterlandref02_Apart.calls (rd l0_2 x47_3) (rd l0_2 (ji24)) t377 _ A27.out).mono ?_);rintro e w' ⟨rfl,⟨nd,rfl⟩⟩))
         go_ret
         exact ⟨by first|rfl|(simp [errW_none,errW_some] <;> rfl)|(simp only [← hji24];first|rfl|(simp [errW_none,errW_some] <;> rfl))|(simp [*,errW_none,errW_some] <;> rfl),hb_⟩
        rw [if_neg c28] at H
        have c28b0 : decide (1 < t377) = false:=decide_eq_false c28
        clear c28
        by_cases c30 : x47_3 > a0_0
        rotate_left
        ·rw [if_neg c30] at H
         have c30b0 : decide (a0_0 < x47_3) = false:=decide_eq_false c30
         clear c30
         have H':=Aside0.mk H
         clear H
         have p375 : 0 ≤ (x47_3 : Int):=of_decide_eq_true (by first|(with_reducible assumption)|assumption)
         have q375 : x47_3 < (l0_2.length : Int):=of_decide_eq_true (by first|(with_reducible assumption)|assumption)
         obtain ⟨ad375,e375,hx375_0⟩:=Kd.at_int HR0_2.out x47_3 p375 q375
         cases e375
         replace hx375_0:=(HB.out.cell (World.block_lt_of_cell? w _ hx375_0)).trans hx375_0
         replace p375:=eq_true p375
         replace q375:=eq_true q375
         obtain ⟨_,_,_,_,_,_⟩:=cells3 BK371.out
         have p376 : 0 ≤ ((ji24) : Int):=of_decide_eq_true (by first|(with_reducible assumption)|assumption)
         have q376 : (ji24) < (l0_2.length : Int):=of_decide_eq_true (by first|(with_reducible assumption)|assumption)
         obtain ⟨ad376,e376,hx376_0⟩:=Kd.at_int HR0_2.out (ji24) p376 q376
         obtain rfl : ad375 = ad376:=(by injection e376)
         replace hx376_0:=(HB.out.cell (World.block_lt_of_cell? w _ hx376_0)).trans hx376_0
         replace p376:=eq_true p376
         replace q376:=eq_true q376
         go_wp2_with (first|(go_at_call 67;(with_reducible refine (hinterlandref02_Apart.calls (rd l0_2 x47_3) (rd l0_2 (ji24)) t377 _ A27.out).mono ?_);rintro e w' ⟨rfl,⟨nd,rfl⟩⟩))
         go_roundg k3
         case measure => have:=HJ1.out;have:=HK2.out;have:=HK3.out;omega
         case rel => exact ⟨(wrap64 (x47_3 + 1)),(by first|rfl|(simp;done)|(simp [*];done)),H',⟨by have:=HJ1.out;have:=HK2.out;have:=HK3.out;omega⟩,⟨blk_up BK371.out⟩,⟨hb_⟩⟩
        rw [if_pos c30] at H
        have c30b0 : decide (a0_0 < x47_3) = true:=decide_eq_true c30
        clear c30
        obtain ⟨ji31,hji31⟩ : ∃ j_ : Int,(wrap64 ((wrap64 (x47_3 - a0_0)) - 1)) = j_:=⟨_,rfl⟩
        replace H : (if 0 ≤ (ji31) then (if (ji31) < (l0_2.length : Int) then ((hinterlandref02_Apart.f (rd l0_2 x47_3) (rd l0_2 (ji31))).bind fun t379 => (if t379 > 1 then (some 5) else (hinterlandref02_Validate.l1 k3 l0_2 (l0_2.length : Int) (wrap64 (x47_3 + 1)) a0_0 a0_1 l0_2))) else (none)) else (none)) = some r:=by first|(rw [hji31] at H;exact H)|(simp only [hji31] at H ⊢;exact H)
        (try rw [hji31] at A27)
        have hji31w : (IntKind.i64.wrap ((wrap64 (x47_3 - a0_0)) - 1)) = ji31:=(i64_w _).trans hji31
        replace H:=ifp_ H;obtain ⟨c32,H⟩:=H
        have c32b0 : decide (0 ≤ (ji31)) = true:=decide_eq_true c32
        clear c32
        replace H:=ifp_ H;obtain ⟨c33,H⟩:=H
        have c33b0 : decide ((ji31) < (l0_2.length : Int)) = true:=decide_eq_true c33
        clear c33
        replace H:=Option.bind_eq_some_iff.mp H
        obtain ⟨t379,A340,H⟩:=H
        replace H : (if t379 > 1 then (some 5) else (hinterlandref02_Validate.l1 k3 l0_2 (l0_2.length : Int) (wrap64 (x47_3 + 1)) a0_0 a0_1 l0_2)) = some r:=H
        have A34:=Aside0.mk A340
        clear A340
        by_cases c35 : t379 > 1
        ·rw [if_pos c35] at H
         have c35b0 : decide (1 < t379) = true:=decide_eq_true c35
         clear c35
         obtain rfl:=Option.some.inj H
         have p375 : 0 ≤ (x47_3 : Int):=of_decide_eq_true (by first|(with_reducible assumption)|assumption)
         have q375 : x47_3 < (l0_2.length : Int):=of_decide_eq_true (by first|(with_reducible assumption)|assumption)
         obtain ⟨ad375,e375,hx375_0⟩:=Kd.at_int HR0_2.out x47_3 p375 q375
         cases e375
         replace hx375_0:=(HB.out.cell (World.block_lt_of_cell? w _ hx375_0)).trans hx375_0
         replace p375:=eq_true p375
         replace q375:=eq_true q375
         obtain ⟨_,_,_,_,_,_⟩:=cells3 BK371.out
         have p376 : 0 ≤ ((ji24) : Int):=of_decide_eq_true (by first|(with_reducible assumption)|assumption)
         have q376 : (ji24) < (l0_2.length : Int):=of_decide_eq_true (by first|(with_reducible assumption)|assumption)
         obtain ⟨ad376,e376,hx376_0⟩:=Kd.at_int HR0_2.out (ji24) p376 q376
         obtain rfl : ad375 = ad376:=(by injection e376)
         replace hx376_0:=(HB.out.cell (World.block_lt_of_cell? w _ hx376_0)).trans hx376_0
         replace p376:=eq_true p376
         replace q376:=eq_true q376
         go_wp2_with (first|(go_at_call 67;(with_reducible refine (hinterlandref02_Apart.calls (rd l0_2 x47_3) (rd l0_2 (ji24)) t377 _ A27.out).mono ?_);rintro e w' ⟨rfl,⟨nd,rfl⟩⟩;have p378 : 0 ≤ ((ji31) : Int):=of_decide_eq_true (by first|(with_reducible assumption)|assumption);have q378 : (ji31) < (l0_2.length : Int):=of_decide_eq_true (by first|(with_reducible assumption)|assumption);obtain ⟨ad378,e378,hx378_0⟩:=Kd.at_int HR0_2.out (ji31) p378 q378;obtain rfl : ad375 = ad378:=(by injection e378);replace hx378_0:=(HB.out.cell (World.block_lt_of_cell? w _ hx378_0)).trans hx378_0;replace p378:=eq_true p378;replace q378:=eq_true q378)|(go_at_call 67;(with_reducible refine (hinterlandref02_Apart.calls (rd l0_2 x47_3) (rd l0_2 (ji31)) t379 _ A34.out).mono ?_);rintro e w' ⟨rfl,⟨nd,rfl⟩⟩))
         go_ret
         exact ⟨by first|rfl|(simp [errW_none,errW_some] <;> rfl)|(simp only [← hji24,← hji31];first|rfl|(simp [errW_none,errW_some] <;> rfl))|(simp [*,errW_none,errW_some] <;> rfl),hb_⟩
        ·rw [if_neg c35] at H
         have c35b0 : decide (1 < t379) = false:=decide_eq_false c35
         clear c35
         have H':=Aside0.mk H
         clear H
         have p375 : 0 ≤ (x47_3 : Int):=of_decide_eq_true (by first|(with_reducible assumption)|assumption)
         have q375 : x47_3 < (l0_2.length : Int):=of_decide_eq_true (by first|(with_reducible assumption)|assumption)
         obtain ⟨ad375,e375,hx375_0⟩:=Kd.at_int HR0_2.out x47_3 p375 q375
         cases e375
         replace hx375_0:=(HB.out.cell (World.block_lt_of_cell? w _ hx375_0)).trans hx375_0
         replace p375:=eq_true p375
         replace q375:=eq_true q375
         obtain ⟨_,_,_,_,_,_⟩:=cells3 BK371.out
         have p376 : 0 ≤ ((ji24) : Int):=of_decide_eq_true (by first|(with_reducible assumption)|assumption)
         have q376 : (ji24) < (l0_2.length : Int):=of_decide_eq_true (by first|(with_reducible assumption)|assumption)
         obtain ⟨ad376,e376,hx376_0⟩:=Kd.at_int HR0_2.out (ji24) p376 q376
         obtain rfl : ad375 = ad376:=(by injection e376)
         replace hx376_0:=(HB.out.cell (World.block_lt_of_cell? w _ hx376_0)).trans hx376_0
         replace p376:=eq_true p376
         replace q376:=eq_true q376
         go_wp2_with (first|(go_at_call 67;(with_reducible refine (hinterlandref02_Apart.calls (rd l0_2 x47_3) (rd l0_2 (ji24)) t377 _ A27.out).mono ?_);rintro e w' ⟨rfl,⟨nd,rfl⟩⟩;have p378 : 0 ≤ ((ji31) : Int):=of_decide_eq_true (by first|(with_reducible assumption)|assumption);have q378 : (ji31) < (l0_2.length : Int):=of_decide_eq_true (by first|(with_reducible assumption)|assumption);obtain ⟨ad378,e378,hx378_0⟩:=Kd.at_int HR0_2.out (ji31) p378 q378;obtain rfl : ad375 = ad378:=(by injection e378);replace hx378_0:=(HB.out.cell (World.block_lt_of_cell? w _ hx378_0)).trans hx378_0;replace p378:=eq_true p378;replace q378:=eq_true q378)|(go_at_call 67;(with_reducible refine (hinterlandref02_Apart.calls (rd l0_2 x47_3) (rd l0_2 (ji31)) t379 _ A34.out).mono ?_);rintro e w' ⟨rfl,⟨nd,rfl⟩⟩))
         go_roundg k3
         case measure => have:=HJ1.out;have:=HK2.out;have:=HK3.out;omega
         case rel => exact ⟨(wrap64 (x47_3 + 1)),(by first|rfl|(simp;done)|(simp [*];done)),H',⟨by have:=HJ1.out;have:=HK2.out;have:=HK3.out;omega⟩,⟨blk_up BK371.out⟩,⟨hb_⟩⟩

/-! ### hinterlandref02_Face: function 50 -/
mutual
def hinterlandref02_Face.l0 : Nat → Int → Int → S71 → Int → Int → Int → List Int → Int → Int → Int → Int → Option (Int × Int)
 | 0,_,_,_,_,_,_,_,_,_,_,_ => none
 | k + 1,x7,x8,x30,x31,x383000,x383001,x383002,x385000,x385001,x385002,x385003 => if x31 < 4 then (if 0 ≤ x31 then (if 0 ≤ (ix71 x30 x31) then (if (ix71 x30 x31) < (x383002.length : Int) then (hinterlandref02_Face.l0 k (mn x7 (rd x383002 (ix71 x30 x31))) (mx x8 (rd x383002 (ix71 x30 x31))) x30 (wrap64 (x31 + 1)) x383000 x383001 x383002 x385000 x385001 x385002 x385003) else (none)) else (none)) else (none)) else (hinterlandref02_Face.l1 k x7 x8 0 1 (⟨x385000,x385001,x385002,x385003⟩ : S71) 0 x383000 x383001 x383002)
def hinterlandref02_Face.l1 : Nat → Int → Int → Int → Int → S71 → Int → Int → Int → List Int → Option (Int × Int)
 | 0,_,_,_,_,_,_,_,_,_ => none
 | k + 1,x7,x8,x11,x12,x49,x50,x383000,x383001,x383002 => if x50 < 4 then (if 0 ≤ x50 then (if 0 ≤ (ix71 x49 x50) then (if (ix71 x49 x50) < (x383002.length : Int) then (if (rd x383002 (ix71 x49 x50)) > x7 then (hinterlandref02_Face.l1 k x7 x8 (wrap64 (x11 + x12)) (wrap64 (x12 * 2)) x49 (wrap64 (x50 + 1)) x383000 x383001 x383002) else (hinterlandref02_Face.l1 k x7 x8 x11 (wrap64 (x12 * 2)) x49 (wrap64 (x50 + 1)) x383000 x383001 x383002)) else (none)) else (none)) else (none)) else (if (wrap64 (x8 - x7)) = 2 then (some (wrap64 (x11 + 16),x7)) else (some (x11,x7)))
end
def hinterlandref02_Face.f (k : Nat) (a0_0 : Int) (a0_1 : Int) (l0_2 : List Int) (a1 : Int) : Option (Int × Int) := (hinterlandref02_Places.f a0_0 a0_1 l0_2 a1).bind fun t383 => (if 0 ≤ t383.f0 then (if t383.f0 < (l0_2.length : Int) then (hinterlandref02_Face.l0 k (rd l0_2 t383.f0) (rd l0_2 t383.f0) (⟨t383.f0, t383.f1, t383.f2, t383.f3⟩ : S71) 0 a0_0 a0_1 l0_2 t383.f0 t383.f1 t383.f2 t383.f3) else (none)) else (none))
theorem hinterlandref02_Face.mono_l : ∀ k, (∀ y0 y1 y2 y3 y4 y5 y6 y7 y8 y9 y10, LeO (hinterlandref02_Face.l0 k y0 y1 y2 y3 y4 y5 y6 y7 y8 y9 y10) (hinterlandref02_Face.l0 (k + 1) y0 y1 y2 y3 y4 y5 y6 y7 y8 y9 y10)) ∧ (∀ y0 y1 y2 y3 y4 y5 y6 y7 y8, LeO (hinterlandref02_Face.l1 k y0 y1 y2 y3 y4 y5 y6 y7 y8) (hinterlandref02_Face.l1 (k + 1) y0 y1 y2 y3 y4 y5 y6 y7 y8))
 | 0 => ⟨fun _ _ _ _ _ _ _ _ _ _ _ r h => by simp [hinterlandref02_Face.l0] at h,fun _ _ _ _ _ _ _ _ _ r h => by simp [hinterlandref02_Face.l1] at h⟩
 | k + 1 => by
  obtain ⟨ih0,ih1⟩:=hinterlandref02_Face.mono_l k
  refine ⟨?_,?_⟩
  ·intro y0 y1 y2 y3 y4 y5 y6 y7 y8 y9 y10
   unfold hinterlandref02_Face.l0
   repeat' first
   | (with_reducible exact ih0 _ _ _ _ _ _ _ _ _ _ _)
   | (with_reducible exact ih1 _ _ _ _ _ _ _ _ _)
   | (with_reducible exact LeO.refl _)
   | (with_reducible exact LeO.none _)
   | (with_reducible refine LeO.ite ?_ ?_)
   | (with_reducible refine LeO.bind ?_ (fun _ => ?_))
   | exact ih0 _ _ _ _ _ _ _ _ _ _ _
   | exact ih1 _ _ _ _ _ _ _ _ _
   | exact LeO.none _
   | refine LeO.ite ?_ ?_
   | refine LeO.bind ?_ (fun _ => ?_)
  ·intro y0 y1 y2 y3 y4 y5 y6 y7 y8
   unfold hinterlandref02_Face.l1
   repeat' first
   | (with_reducible exact ih0 _ _ _ _ _ _ _ _ _ _ _)
   | (with_reducible exact ih1 _ _ _ _ _ _ _ _ _)
   | (with_reducible exact LeO.refl _)
   | (with_reducible exact LeO.none _)
   | (with_reducible refine LeO.ite ?_ ?_)
   | (with_reducible refine LeO.bind ?_ (fun _ => ?_))
   | exact ih0 _ _ _ _ _ _ _ _ _ _ _
   | exact ih1 _ _ _ _ _ _ _ _ _
   | exact LeO.none _
   | refine LeO.ite ?_ ?_
   | refine LeO.bind ?_ (fun _ => ?_)
theorem hinterlandref02_Face.mono : ∀ a0 a1 a2 a3 k, LeO (hinterlandref02_Face.f k a0 a1 a2 a3) (hinterlandref02_Face.f (k + 1) a0 a1 a2 a3) := by
 intro a0 a1 a2 a3 k
 obtain ⟨ih0,ih1⟩:=hinterlandref02_Face.mono_l k
 unfold hinterlandref02_Face.f
 repeat' first
   | (with_reducible exact ih0 _ _ _ _ _ _ _ _ _ _ _)
   | (with_reducible exact ih1 _ _ _ _ _ _ _ _ _)
   | (with_reducible exact LeO.refl _)
   | (with_reducible exact LeO.none _)
   | (with_reducible refine LeO.ite ?_ ?_)
   | (with_reducible refine LeO.bind ?_ (fun _ => ?_))
   | exact ih0 _ _ _ _ _ _ _ _ _ _ _
   | exact ih1 _ _ _ _ _ _ _ _ _
   | exact LeO.none _
   | refine LeO.ite ?_ ?_
   | refine LeO.bind ?_ (fun _ => ?_)
set_option maxHeartbeats 8000000 in
set_option maxRecDepth 100000 in
theorem hinterlandref02_Face.calls (k : Nat) (a0_0 : Int) (a0_1 : Int) (A0_2 : Option Addr) (c0_2 : Nat) (l0_2 : List Int) (a1 : Int) (r1 : Int) (r2 : Int) (w : World) (hr0_2 : Kd.C (Kd.int .i64) w A0_2 l0_2.length l0_2) (hc0_2 : l0_2.length ≤ c0_2) (h : hinterlandref02_Face.f k a0_0 a0_1 l0_2 a1 = some (r1, r2)) :
  Calls Try.prog 50 #[.agg #[.int .i64 a0_0,.int .i64 a0_1,.slice A0_2 l0_2.length c0_2],.int .i64 a1] w fun e w' => e = .returned (.tuple #[.int .i64 r1,.int .i64 r2]) ∧ Below w.heap.size w w':=by
 have hu24:=Try.underlying24
 have hu71:=Try.underlying71
 have HR0_2:=Aside0.mk hr0_2
 have HC0_2:=Aside0.mk hc0_2
 clear hr0_2 hc0_2
 have HB:=Aside0.mk (Below.refl w.heap.size w)
 have H : ((hinterlandref02_Places.f a0_0 a0_1 l0_2 a1).bind fun t383 => (if 0 ≤ t383.f0 then (if t383.f0 < (l0_2.length : Int) then (hinterlandref02_Face.l0 k (rd l0_2 t383.f0) (rd l0_2 t383.f0) (⟨t383.f0,t383.f1,t383.f2,t383.f3⟩ : S71) 0 a0_0 a0_1 l0_2 t383.f0 t383.f1 t383.f2 t383.f3) else (none)) else (none))) = some (r1,r2):=h
 clear h
 replace H:=Option.bind_eq_some_iff.mp H
 obtain ⟨t383,A30,H⟩:=H
 replace H : (if 0 ≤ t383.f0 then (if t383.f0 < (l0_2.length : Int) then (hinterlandref02_Face.l0 k (rd l0_2 t383.f0) (rd l0_2 t383.f0) (⟨t383.f0,t383.f1,t383.f2,t383.f3⟩ : S71) 0 a0_0 a0_1 l0_2 t383.f0 t383.f1 t383.f2 t383.f3) else (none)) else (none)) = some (r1,r2):=H
 have A3:=Aside0.mk A30
 clear A30
 replace H:=ifp_ H;obtain ⟨c4,H⟩:=H
 have c4b0 : decide (0 ≤ t383.f0) = true:=decide_eq_true c4
 clear c4
 replace H:=ifp_ H;obtain ⟨c5,H⟩:=H
 have c5b0 : decide (t383.f0 < (l0_2.length : Int)) = true:=decide_eq_true c5
 clear c5
 have H':=Aside0.mk H
 clear H
 go_enter Try.func50,Try.ntmps50
 go_wp2_with (first|((with_reducible refine gate_dst (N:=2) rfl ?_);refine box_ev (N:=2) (cs:=#[.int .i64 a0_0,.int .i64 a0_1,.slice A0_2 l0_2.length c0_2]) (t:=24) ?_;intro gb382 hg w6 hbox hb;have BK382:=Aside0.mk (hbox);have GW382 : Aside0 (w.heap.size ≤ gb382):=gsz hg;have GE382:=GW382;replace HB:=hbs hb;clear hb hbox hg;obtain ⟨_,_,_,_,_,_⟩:=cells3 BK382.out)|(go_at_call 68;(with_reducible refine (hinterlandref02_Places.calls a0_0 a0_1 _ _ l0_2 a1 t383 _ ?_ ?_ A3.out).mono ?_);exact cq HR0_2;exact HC0_2.out;rintro e w8 ⟨rfl,hb⟩;replace BK382:=bkb BK382 hb;replace HB:=hbs hb)|((with_reducible refine gate_dst (N:=6) rfl ?_);refine box_ev (N:=6) (cs:=#[.int .i64 0,.int .i64 0,.int .i64 0,.int .i64 0]) (t:=71) ?_;intro gb384 hg w9 hbox hb;have BK384:=Aside0.mk (hbox);have GW384 : Aside0 (w.heap.size ≤ gb384):=gsz hg;have GE384:=GW384;have NB382_384:=nbl BK382 hg;have NB384_382:=nbr BK382 hg;replace BK382:=bkb BK382 hb;replace HB:=hbs hb;clear hb hbox hg;have hnb10:=NB384_382.out;have hnc10:=NB382_384.out;obtain ⟨_,_,_,_,_,_,_,_⟩:=cells4 BK384.out;obtain ⟨_,_,_,_,_,_⟩:=cells3 BK382.out;have p385 : 0 ≤ (t383.f0 : Int):=of_decide_eq_true (by first|(with_reducible assumption)|assumption);have q385 : t383.f0 < (l0_2.length : Int):=of_decide_eq_true (by first|(with_reducible assumption)|assumption);obtain ⟨ad385,e385,hx385_0⟩:=Kd.at_int HR0_2.out t383.f0 p385 q385;cases e385;have hn385_0 : ad385.block ≠ gb384:=Nat.ne_of_lt (Nat.lt_of_lt_of_le (by have:=World.block_lt_of_cell? _ _ hx385_0;first|rwa [add_block] at this|exact this) GW384.out);have hn385_1 : ad385.block ≠ gb384:=Nat.ne_of_lt (Nat.lt_of_lt_of_le (by have:=World.block_lt_of_cell? _ _ hx385_0;first|rwa [add_block] at this|exact this) GW384.out);have hn385_2 : ad385.block ≠ gb384:=Nat.ne_of_lt (Nat.lt_of_lt_of_le (by have:=World.block_lt_of_cell? _ _ hx385_0;first|rwa [add_block] at this|exact this) GW384.out);have hn385_3 : ad385.block ≠ gb384:=Nat.ne_of_lt (Nat.lt_of_lt_of_le (by have:=World.block_lt_of_cell? _ _ hx385_0;first|rwa [add_block] at this|exact this) GW384.out);replace hx385_0:=(HB.out.cell (World.block_lt_of_cell? w _ hx385_0)).trans hx385_0;replace hx385_0:=(cell_far (p:=⟨gb384,0,none⟩) (by first|(rw [add_block];exact hn385_0)|(show (Addr.add _ _).block ≠ _;rw [add_block];exact hn385_0)|exact hn385_0) (.int .i64 t383.f0)).trans hx385_0;replace hx385_0:=(cell_far (p:=⟨gb384,1,none⟩) (by first|(rw [add_block];exact hn385_1)|(show (Addr.add _ _).block ≠ _;rw [add_block];exact hn385_1)|exact hn385_1) (.int .i64 t383.f1)).trans hx385_0;replace hx385_0:=(cell_far (p:=⟨gb384,2,none⟩) (by first|(rw [add_block];exact hn385_2)|(show (Addr.add _ _).block ≠ _;rw [add_block];exact hn385_2)|exact hn385_2) (.int .i64 t383.f2)).trans hx385_0;replace hx385_0:=(cell_far (p:=⟨gb384,3,none⟩) (by first|(rw [add_block];exact hn385_3)|(show (Addr.add _ _).block ≠ _;rw [add_block];exact hn385_3)|exact hn385_3) (.int .i64 t383.f3)).trans hx385_0;(try have hy385_0:=fun (n_ : Nat) => (show ((((((w9.drewN n_).setCell ⟨gb384,0,none⟩ (.int .i64 t383.f0)).setCell ⟨gb384,1,none⟩ (.int .i64 t383.f1)).setCell ⟨gb384,2,none⟩ (.int .i64 t383.f2)).setCell ⟨gb384,3,none⟩ (.int .i64 t383.f3))).cell? _ = some _ from hx385_0));clear hn385_0;clear hn385_1;clear hn385_2;clear hn385_3;replace p385:=eq_true p385;replace q385:=eq_true q385;have p386 : 0 ≤ (t383.f0 : Int):=of_decide_eq_true (by first|(with_reducible assumption)|assumption);have q386 : t383.f0 < (l0_2.length : Int):=of_decide_eq_true (by first|(with_reducible assumption)|assumption);obtain ⟨ad386,e386,hx386_0⟩:=Kd.at_int HR0_2.out t383.f0 p386 q386;obtain rfl : ad385 = ad386:=(by injection e386);have hn386_0 : ad385.block ≠ gb384:=Nat.ne_of_lt (Nat.lt_of_lt_of_le (by have:=World.block_lt_of_cell? _ _ hx386_0;first|rwa [add_block] at this|exact this) GW384.out);have hn386_1 : ad385.block ≠ gb384:=Nat.ne_of_lt (Nat.lt_of_lt_of_le (by have:=World.block_lt_of_cell? _ _ hx386_0;first|rwa [add_block] at this|exact this) GW384.out);have hn386_2 : ad385.block ≠ gb384:=Nat.ne_of_lt (Nat.lt_of_lt_of_le (by have:=World.block_lt_of_cell? _ _ hx386_0;first|rwa [add_block] at this|exact this) GW384.out);have hn386_3 : ad385.block ≠ gb384:=Nat.ne_of_lt (Nat.lt_of_lt_of_le (by have:=World.block_lt_of_cell? _ _ hx386_0;first|rwa [add_block] at this|exact this) GW384.out);replace hx386_0:=(HB.out.cell (World.block_lt_of_cell? w _ hx386_0)).trans hx386_0;replace hx386_0:=(cell_far (p:=⟨gb384,0,none⟩) (by first|(rw [add_block];exact hn386_0)|(show (Addr.add _ _).block ≠ _;rw [add_block];exact hn386_0)|exact hn386_0) (.int .i64 t383.f0)).trans hx386_0;replace hx386_0:=(cell_far (p:=⟨gb384,1,none⟩) (by first|(rw [add_block];exact hn386_1)|(show (Addr.add _ _).block ≠ _;rw [add_block];exact hn386_1)|exact hn386_1) (.int .i64 t383.f1)).trans hx386_0;replace hx386_0:=(cell_far (p:=⟨gb384,2,none⟩) (by first|(rw [add_block];exact hn386_2)|(show (Addr.add _ _).block ≠ _;rw [add_block];exact hn386_2)|exact hn386_2) (.int .i64 t383.f2)).trans hx386_0;replace hx386_0:=(cell_far (p:=⟨gb384,3,none⟩) (by first|(rw [add_block];exact hn386_3)|(show (Addr.add _ _).block ≠ _;rw [add_block];exact hn386_3)|exact hn386_3) (.int .i64 t383.f3)).trans hx386_0;(try have hy386_0:=fun (n_ : Nat) => (show ((((((w9.drewN n_).setCell ⟨gb384,0,none⟩ (.int .i64 t383.f0)).setCell ⟨gb384,1,none⟩ (.int .i64 t383.f1)).setCell ⟨gb384,2,none⟩ (.int .i64 t383.f2)).setCell ⟨gb384,3,none⟩ (.int .i64 t383.f3))).cell? _ = some _ from hx386_0));clear hn386_0;clear hn386_1;clear hn386_2;clear hn386_3;replace p386:=eq_true p386;replace q386:=eq_true q386))
 go_quiet (fail)
 go_wp2
 go_loopg [7,8,31] k (fun kq v7 v8 v31 w' => ∃ (x7_1 : Int) (x8_1 : Int) (x31_1 : Int),v7 = .int .i64 x7_1 ∧ v8 = .int .i64 x8_1 ∧ v31 = .int .i64 x31_1 ∧ Aside0 (hinterlandref02_Face.l0 kq x7_1 x8_1 (⟨t383.f0,t383.f1,t383.f2,t383.f3⟩ : S71) x31_1 a0_0 a0_1 l0_2 t383.f0 t383.f1 t383.f2 t383.f3 = some (r1,r2)) ∧ Aside0 (kq ≤ k) ∧ Aside0 (w'.heap[gb382]? = some (.cells #[.int .i64 a0_0,.int .i64 a0_1,(.slice (some ad385) l0_2.length c0_2)] 24 (0,0))) ∧ Aside0 (w'.heap[gb384]? = some (.cells #[.int .i64 t383.f0,.int .i64 t383.f1,.int .i64 t383.f2,.int .i64 t383.f3] 71 (0,0))) ∧ Aside0 (Below w.heap.size w w'))
 case atStart => exact ⟨(rd l0_2 t383.f0),(rd l0_2 t383.f0),(0),(by first|rfl|(simp;done)|(simp [*];done)),(by first|rfl|(simp;done)|(simp [*];done)),(by first|rfl|(simp;done)|(simp [*];done)),H',⟨Nat.le_refl _⟩,⟨by (with_reducible repeat (first|refine blk_drewN ?_ _|refine blk_drew ?_|refine blk_alloc ?_ _));refine blk_far ?_ NB382_384.out _;(with_reducible repeat (first|refine blk_drewN ?_ _|refine blk_drew ?_|refine blk_alloc ?_ _));refine blk_far ?_ NB382_384.out _;(with_reducible repeat (first|refine blk_drewN ?_ _|refine blk_drew ?_|refine blk_alloc ?_ _));refine blk_far ?_ NB382_384.out _;(with_reducible repeat (first|refine blk_drewN ?_ _|refine blk_drew ?_|refine blk_alloc ?_ _));refine blk_far ?_ NB382_384.out _;(with_reducible repeat (first|refine blk_drewN ?_ _|refine blk_drew ?_|refine blk_alloc ?_ _));exact BK382.out⟩,⟨by (with_reducible repeat (first|refine blk_drewN ?_ _|refine blk_drew ?_|refine blk_alloc ?_ _));exact blk_puts4 (blk_up BK384.out)⟩,⟨hb_⟩⟩
 case round =>
  clear H'
  obtain ⟨x7_1,x8_1,x31_1,rfl,rfl,rfl,HA,HK1,BK382,BK384,HB⟩:=hrel
  cases gk with
  | zero => exact absurd HA.out (by simp [hinterlandref02_Face.l0])
  | succ k1 =>
   have H:=HA.out
   clear HA
   simp only [hinterlandref02_Face.l0] at H
   by_cases c13 : x31_1 < 4
   ·rw [if_pos c13] at H
    have c13b0 : decide (x31_1 < 4) = true:=decide_eq_true c13
    clear c13
    replace H:=ifp_ H;obtain ⟨c14,H⟩:=H
    have c14b0 : decide (0 ≤ x31_1) = true:=decide_eq_true c14
    clear c14
    have hix15:=fun (W_ : World) => (ix71_run t383.f0 t383.f1 t383.f2 t383.f3 x31_1 (of_decide_eq_true (by first|(with_reducible assumption)|assumption)) (of_decide_eq_true (by first|(with_reducible assumption)|assumption)) W_ : (Instr.index 71 (.agg #[.int .i64 t383.f0,.int .i64 t383.f1,.int .i64 t383.f2,.int .i64 t383.f3]) (.int .i64 x31_1)).run Try.prog W_ = .ok (.int .i64 (ix71 (⟨t383.f0,t383.f1,t383.f2,t383.f3⟩ : S71) x31_1)) W_)
    replace H:=ifp_ H;obtain ⟨c16,H⟩:=H
    have c16b0 : decide (0 ≤ (ix71 (⟨t383.f0,t383.f1,t383.f2,t383.f3⟩ : S71) x31_1)) = true:=decide_eq_true c16
    clear c16
    replace H:=ifp_ H;obtain ⟨c17,H⟩:=H
    have c17b0 : decide ((ix71 (⟨t383.f0,t383.f1,t383.f2,t383.f3⟩ : S71) x31_1) < (l0_2.length : Int)) = true:=decide_eq_true c17
    clear c17
    obtain ⟨ji18,hji18⟩ : ∃ j_ : Int,(mn x7_1 (rd l0_2 (ix71 (⟨t383.f0,t383.f1,t383.f2,t383.f3⟩ : S71) x31_1))) = j_:=⟨_,rfl⟩
    replace H : (hinterlandref02_Face.l0 k1 ji18 (mx x8_1 (rd l0_2 (ix71 (⟨t383.f0,t383.f1,t383.f2,t383.f3⟩ : S71) x31_1))) (⟨t383.f0,t383.f1,t383.f2,t383.f3⟩ : S71) (wrap64 (x31_1 + 1)) a0_0 a0_1 l0_2 t383.f0 t383.f1 t383.f2 t383.f3) = some (r1,r2):=by first|(rw [hji18] at H;exact H)|(simp only [hji18] at H ⊢;exact H)
    have hji18_ : (if (rd l0_2 (ix71 (⟨t383.f0,t383.f1,t383.f2,t383.f3⟩ : S71) x31_1)) < x7_1 then (rd l0_2 (ix71 (⟨t383.f0,t383.f1,t383.f2,t383.f3⟩ : S71) x31_1)) else x7_1) = ji18:=hji18
    obtain ⟨ji19,hji19⟩ : ∃ j_ : Int,(mx x8_1 (rd l0_2 (ix71 (⟨t383.f0,t383.f1,t383.f2,t383.f3⟩ : S71) x31_1))) = j_:=⟨_,rfl⟩
    replace H : (hinterlandref02_Face.l0 k1 ji18 ji19 (⟨t383.f0,t383.f1,t383.f2,t383.f3⟩ : S71) (wrap64 (x31_1 + 1)) a0_0 a0_1 l0_2 t383.f0 t383.f1 t383.f2 t383.f3) = some (r1,r2):=by first|(rw [hji19] at H;exact H)|(simp only [hji19] at H ⊢;exact H)
    have hji19_ : (if x8_1 < (rd l0_2 (ix71 (⟨t383.f0,t383.f1,t383.f2,t383.f3⟩ : S71) x31_1)) then (rd l0_2 (ix71 (⟨t383.f0,t383.f1,t383.f2,t383.f3⟩ : S71) x31_1)) else x8_1) = ji19:=hji19
    have H':=Aside0.mk H
    clear H
    have hnb20:=NB382_384.out
    have hnc20:=NB384_382.out
    obtain ⟨_,_,_,_,_,_⟩:=cells3 BK382.out
    have p387 : 0 ≤ ((ix71 (⟨t383.f0,t383.f1,t383.f2,t383.f3⟩ : S71) x31_1) : Int):=of_decide_eq_true (by first|(with_reducible assumption)|assumption)
    have q387 : (ix71 (⟨t383.f0,t383.f1,t383.f2,t383.f3⟩ : S71) x31_1) < (l0_2.length : Int):=of_decide_eq_true (by first|(with_reducible assumption)|assumption)
    obtain ⟨ad387,e387,hx387_0⟩:=Kd.at_int HR0_2.out (ix71 (⟨t383.f0,t383.f1,t383.f2,t383.f3⟩ : S71) x31_1) p387 q387
    obtain rfl : ad385 = ad387:=(by injection e387)
    replace hx387_0:=(HB.out.cell (World.block_lt_of_cell? w _ hx387_0)).trans hx387_0
    replace p387:=eq_true p387
    replace q387:=eq_true q387
    have p388 : 0 ≤ ((ix71 (⟨t383.f0,t383.f1,t383.f2,t383.f3⟩ : S71) x31_1) : Int):=of_decide_eq_true (by first|(with_reducible assumption)|assumption)
    have q388 : (ix71 (⟨t383.f0,t383.f1,t383.f2,t383.f3⟩ : S71) x31_1) < (l0_2.length : Int):=of_decide_eq_true (by first|(with_reducible assumption)|assumption)
    obtain ⟨ad388,e388,hx388_0⟩:=Kd.at_int HR0_2.out (ix71 (⟨t383.f0,t383.f1,t383.f2,t383.f3⟩ : S71) x31_1) p388 q388
    obtain rfl : ad385 = ad388:=(by injection e388)
    replace hx388_0:=(HB.out.cell (World.block_lt_of_cell? w _ hx388_0)).trans hx388_0
    replace p388:=eq_true p388
    replace q388:=eq_true q388
    go_wp2
    go_quiet (fail)
    go_wp2
    go_roundg k1
    case measure => have:=HK1.out;omega
    case rel => exact ⟨(ji18),(ji19),(wrap64 (x31_1 + 1)),(by first|rfl|(simp;done)|(simp only [← hji18] <;> (first|rfl|simp))|(simp [*];done)),(by first|rfl|(simp;done)|(simp only [← hji19] <;> (first|rfl|simp))|(simp [*];done)),(by first|rfl|(simp;done)|(simp [*];done)),H',⟨by have:=HK1.out;omega⟩,⟨blk_up BK382.out⟩,⟨blk_up BK384.out⟩,⟨hb_⟩⟩
   rw [if_neg c13] at H
   have c13b0 : decide (x31_1 < 4) = false:=decide_eq_false c13
   clear c13
   have H':=Aside0.mk H
   clear H
   have hnb22:=NB384_382.out
   have hnc22:=NB382_384.out
   obtain ⟨_,_,_,_,_,_,_,_⟩:=cells4 BK384.out
   go_wp2
   go_loopg [11,12,50] k1 (fun kq v11 v12 v50 w' => ∃ (x11_2 : Int) (x12_2 : Int) (x50_2 : Int),v11 = .int .i64 x11_2 ∧ v12 = .int .i64 x12_2 ∧ v50 = .int .i64 x50_2 ∧ Aside0 (hinterlandref02_Face.l1 kq x7_1 x8_1 x11_2 x12_2 (⟨t383.f0,t383.f1,t383.f2,t383.f3⟩ : S71) x50_2 a0_0 a0_1 l0_2 = some (r1,r2)) ∧ Aside0 (kq ≤ k1) ∧ Aside0 (w'.heap[gb382]? = some (.cells #[.int .i64 a0_0,.int .i64 a0_1,(.slice (some ad385) l0_2.length c0_2)] 24 (0,0))) ∧ Aside0 (w'.heap[gb384]? = some (.cells #[.int .i64 t383.f0,.int .i64 t383.f1,.int .i64 t383.f2,.int .i64 t383.f3] 71 (0,0))) ∧ Aside0 (Below w.heap.size w w'))
   case atStart => exact ⟨(0),(1),(0),(by first|rfl|(simp;done)|(simp [*];done)),(by first|rfl|(simp;done)|(simp [*];done)),(by first|rfl|(simp;done)|(simp [*];done)),H',⟨Nat.le_refl _⟩,⟨blk_up BK382.out⟩,⟨blk_up BK384.out⟩,⟨hb_⟩⟩
   case round =>
    clear H'
    obtain ⟨x11_2,x12_2,x50_2,rfl,rfl,rfl,HA,HK2,BK382,BK384,HB⟩:=hrel
    cases gk with
    | zero => exact absurd HA.out (by simp [hinterlandref02_Face.l1])
    | succ k2 =>
     have H:=HA.out
     clear HA
     simp only [hinterlandref02_Face.l1] at H
     by_cases c24 : x50_2 < 4
     rotate_left
     ·rw [if_neg c24] at H
      have c24b0 : decide (x50_2 < 4) = false:=decide_eq_false c24
      clear c24
      by_cases c34 : (wrap64 (x8_1 - x7_1)) = 2
      ·rw [if_pos c34] at H
       have c34b0:=bqt c34
       have c34b1:=bnf c34
       clear c34
       simp only [Option.some.injEq,Prod.mk.injEq] at H
       obtain ⟨rfl,rfl⟩:=H
       go_wp2
       go_ret2
       exact ⟨er_,hb_⟩
      ·rw [if_neg c34] at H
       have c34b0:=bqf c34
       have c34b1:=bnt c34
       simp only [Option.some.injEq,Prod.mk.injEq] at H
       obtain ⟨rfl,rfl⟩:=H
       go_wp2
       go_ret2
       exact ⟨er_,hb_⟩
     rw [if_pos c24] at H
     have c24b0 : decide (x50_2 < 4) = true:=decide_eq_true c24
     clear c24
     replace H:=ifp_ H;obtain ⟨c25,H⟩:=H
     have c25b0 : decide (0 ≤ x50_2) = true:=decide_eq_true c25
     clear c25
     have hix26:=fun (W_ : World) => (ix71_run t383.f0 t383.f1 t383.f2 t383.f3 x50_2 (of_decide_eq_true (by first|(with_reducible assumption)|assumption)) (of_decide_eq_true (by first|(with_reducible assumption)|assumption)) W_ : (Instr.index 71 (.agg #[.int .i64 t383.f0,.int .i64 t383.f1,.int .i64 t383.f2,.int .i64 t383.f3]) (.int .i64 x50_2)).run Try.prog W_ = .ok (.int .i64 (ix71 (⟨t383.f0,t383.f1,t383.f2,t383.f3⟩ : S71) x50_2)) W_)
     replace H:=ifp_ H;obtain ⟨c27,H⟩:=H
     have c27b0 : decide (0 ≤ (ix71 (⟨t383.f0,t383.f1,t383.f2,t383.f3⟩ : S71) x50_2)) = true:=decide_eq_true c27
     clear c27
     replace H:=ifp_ H;obtain ⟨c28,H⟩:=H
     have c28b0 : decide ((ix71 (⟨t383.f0,t383.f1,t383.f2,t383.f3⟩ : S71) x50_2) < (l0_2.length : Int)) = true:=decide_eq_true c28
     clear c28
     by_cases c29 : (rd l0_2 (ix71 (⟨t383.f0,t383.f1,t383.f2,t383.f3⟩ : S71) x50_2)) > x7_1
     ·rw [if_pos c29] at H
      have c29b0 : decide (x7_1 < (rd l0_2 (ix71 (⟨t383.f0,t383.f1,t383.f2,t383.f3⟩ : S71) x50_2))) = true:=decide_eq_true c29
      clear c29
      have H':=Aside0.mk H
      clear H
      have hnb30:=NB382_384.out
      have hnc30:=NB384_382.out
      obtain ⟨_,_,_,_,_,_⟩:=cells3 BK382.out
      have p389 : 0 ≤ ((ix71 (⟨t383.f0,t383.f1,t383.f2,t383.f3⟩ : S71) x50_2) : Int):=of_decide_eq_true (by first|(with_reducible assumption)|assumption)
      have q389 : (ix71 (⟨t383.f0,t383.f1,t383.f2,t383.f3⟩ : S71) x50_2) < (l0_2.length : Int):=of_decide_eq_true (by first|(with_reducible assumption)|assumption)
      obtain ⟨ad389,e389,hx389_0⟩:=Kd.at_int HR0_2.out (ix71 (⟨t383.f0,t383.f1,t383.f2,t383.f3⟩ : S71) x50_2) p389 q389
      obtain rfl : ad385 = ad389:=(by injection e389)
      replace hx389_0:=(HB.out.cell (World.block_lt_of_cell? w _ hx389_0)).trans hx389_0
      replace p389:=eq_true p389
      replace q389:=eq_true q389
      go_wp2
      go_roundg k2
      case measure => have:=HK1.out;have:=HK2.out;omega
      case rel => exact ⟨(wrap64 (x11_2 + x12_2)),(wrap64 (x12_2 * 2)),(wrap64 (x50_2 + 1)),(by first|rfl|(simp;done)|(simp [*];done)),(by first|rfl|(simp;done)|(simp [*];done)),(by first|rfl|(simp;done)|(simp [*];done)),H',⟨by have:=HK1.out;have:=HK2.out;omega⟩,⟨blk_up BK382.out⟩,⟨blk_up BK384.out⟩,⟨hb_⟩⟩
     ·rw [if_neg c29] at H
      have c29b0 : decide (x7_1 < (rd l0_2 (ix71 (⟨t383.f0,t383.f1,t383.f2,t383.f3⟩ : S71) x50_2))) = false:=decide_eq_false c29
      clear c29
      have H':=Aside0.mk H
      clear H
      have hnb32:=NB382_384.out
      have hnc32:=NB384_382.out
      obtain ⟨_,_,_,_,_,_⟩:=cells3 BK382.out
      have p389 : 0 ≤ ((ix71 (⟨t383.f0,t383.f1,t383.f2,t383.f3⟩ : S71) x50_2) : Int):=of_decide_eq_true (by first|(with_reducible assumption)|assumption)
      have q389 : (ix71 (⟨t383.f0,t383.f1,t383.f2,t383.f3⟩ : S71) x50_2) < (l0_2.length : Int):=of_decide_eq_true (by first|(with_reducible assumption)|assumption)
      obtain ⟨ad389,e389,hx389_0⟩:=Kd.at_int HR0_2.out (ix71 (⟨t383.f0,t383.f1,t383.f2,t383.f3⟩ : S71) x50_2) p389 q389
      obtain rfl : ad385 = ad389:=(by injection e389)
      replace hx389_0:=(HB.out.cell (World.block_lt_of_cell? w _ hx389_0)).trans hx389_0
      replace p389:=eq_true p389
      replace q389:=eq_true q389
      go_wp2
      go_roundg k2
      case measure => have:=HK1.out;have:=HK2.out;omega
      case rel => exact ⟨(x11_2),(wrap64 (x12_2 * 2)),(wrap64 (x50_2 + 1)),(by first|rfl|(simp;done)|(simp [*];done)),(by first|rfl|(simp;done)|(simp [*];done)),(by first|rfl|(simp;done)|(simp [*];done)),H',⟨by have:=HK1.out;have:=HK2.out;omega⟩,⟨blk_up BK382.out⟩,⟨blk_up BK384.out⟩,⟨hb_⟩⟩

/-! ### hinterlandref06_upper: function 63 -/
def hinterlandref06_upper.f (a0 : Int) : Option (Int) := if a0 = 6 then (some 0) else (if a0 = 12 then (some 1) else (if a0 = 9 then (some 2) else (if a0 = 3 then (some 3) else (some (-1)))))
set_option maxHeartbeats 8000000 in
set_option maxRecDepth 100000 in
theorem hinterlandref06_upper.calls (a0 : Int) (r : Int) (w : World) (h : hinterlandref06_upper.f a0 = some r) :
  Calls Try.prog 63 #[.int .i64 a0] w fun e w' => e = .returned (.int .i64 r) ∧ Drawn0 w w':=by
 have H : (if a0 = 6 then (some 0) else (if a0 = 12 then (some 1) else (if a0 = 9 then (some 2) else (if a0 = 3 then (some 3) else (some (-1)))))) = some r:=h
 clear h
 by_cases c2 : a0 = 6
 ·rw [if_pos c2] at H
  have c2b0:=bqt c2
  have c2b1:=bnf c2
  clear c2
  obtain rfl:=Option.some.inj H
  go_enter Try.func63,Try.ntmps63
  go_wp2
  go_ret
  exact ⟨by first|rfl|(simp;done)|(simp [*];done),by repeat (first|exact Drawn0.refl _|apply Drawn0.step)⟩
 rw [if_neg c2] at H
 have c2b0:=bqf c2
 have c2b1:=bnt c2
 by_cases c3 : a0 = 12
 ·rw [if_pos c3] at H
  have c3b0:=bqt c3
  have c3b1:=bnf c3
  clear c3
  obtain rfl:=Option.some.inj H
  go_enter Try.func63,Try.ntmps63
  go_wp2
  go_ret
  exact ⟨by first|rfl|(simp;done)|(simp [*];done),by repeat (first|exact Drawn0.refl _|apply Drawn0.step)⟩
 rw [if_neg c3] at H
 have c3b0:=bqf c3
 have c3b1:=bnt c3
 by_cases c4 : a0 = 9
 ·rw [if_pos c4] at H
  have c4b0:=bqt c4
  have c4b1:=bnf c4
  clear c4
  obtain rfl:=Option.some.inj H
  go_enter Try.func63,Try.ntmps63
  go_wp2
  go_ret
  exact ⟨by first|rfl|(simp;done)|(simp [*];done),by repeat (first|exact Drawn0.refl _|apply Drawn0.step)⟩
 ·rw [if_neg c4] at H
  have c4b0:=bqf c4
  have c4b1:=bnt c4
  by_cases c5 : a0 = 3
  ·rw [if_pos c5] at H
   have c5b0:=bqt c5
   have c5b1:=bnf c5
   clear c5
   obtain rfl:=Option.some.inj H
   go_enter Try.func63,Try.ntmps63
   go_wp2
   go_ret
   exact ⟨by first|rfl|(simp;done)|(simp [*];done),by repeat (first|exact Drawn0.refl _|apply Drawn0.step)⟩
  ·rw [if_neg c5] at H
   have c5b0:=bqf c5
   have c5b1:=bnt c5
   obtain rfl:=Option.some.inj H
   go_enter Try.func63,Try.ntmps63
   go_wp2
   go_ret
   exact ⟨by first|rfl|(simp;done)|(simp [*];done),by repeat (first|exact Drawn0.refl _|apply Drawn0.step)⟩

/-! ### hinterlandref06_lies: function 49 -/
def hinterlandref06_lies.j0 : Nat → Int → Int → Bool → Int → Bool → Option (Int)
 | 0,_,_,_,_,_ => none
 | k + 1,x2,x7,x9,x19,x20 => if x20 = true then (if x9 = true then (some 9) else (if x2 = 1 then (if x7 = 0 then (if x2 = 2 then ((hinterlandref06_upper.f x7).bind fun t394 => (if t394 < 0 then (some 5) else (some 0))) else (some 0)) else (some 5)) else (if x2 = 2 then ((hinterlandref06_upper.f x7).bind fun t395 => (if t395 < 0 then (some 5) else (some 0))) else (some 0)))) else (if x19 = 3 then (if x9 = true then (some 0) else (if x7 = 0 then (some 0) else (some 9))) else (some 0))
def hinterlandref06_lies.f (k : Nat) (a0_0 : Int) (a0_1 : Int) (l0_2 : List Int) (a1 : Int) (a2 : Int) : Option (Int) := (hinterlandref02_Face.f k a0_0 a0_1 l0_2 a1).bind fun bt391 => ((hinterlandref02_Sea.f k a0_0 a0_1 l0_2 a1).bind fun t393 => (if a2 = 1 then (hinterlandref06_lies.j0 k a2 bt391.1 t393 a2 (a2 == 1)) else (hinterlandref06_lies.j0 k a2 bt391.1 t393 a2 (a2 == 2))))
theorem hinterlandref06_lies.mono_l : ∀ k, (∀ y0 y1 y2 y3 y4, LeO (hinterlandref06_lies.j0 k y0 y1 y2 y3 y4) (hinterlandref06_lies.j0 (k + 1) y0 y1 y2 y3 y4))
 | 0 => fun _ _ _ _ _ r h => by simp [hinterlandref06_lies.j0] at h
 | k + 1 => by
  have ih0:=hinterlandref06_lies.mono_l k
  ·intro y0 y1 y2 y3 y4
   unfold hinterlandref06_lies.j0
   repeat' first
   | (with_reducible exact ih0 _ _ _ _ _)
   | (with_reducible exact hinterlandref02_Face.mono _ _ _ _ _)
   | (with_reducible exact hinterlandref02_Sea.mono _ _ _ _ _)
   | (with_reducible exact LeO.refl _)
   | (with_reducible exact LeO.none _)
   | (with_reducible refine LeO.ite ?_ ?_)
   | (with_reducible refine LeO.bind ?_ (fun _ => ?_))
   | exact ih0 _ _ _ _ _
   | exact hinterlandref02_Face.mono _ _ _ _ _
   | exact hinterlandref02_Sea.mono _ _ _ _ _
   | exact LeO.none _
   | refine LeO.ite ?_ ?_
   | refine LeO.bind ?_ (fun _ => ?_)
theorem hinterlandref06_lies.mono : ∀ a0 a1 a2 a3 a4 k, LeO (hinterlandref06_lies.f k a0 a1 a2 a3 a4) (hinterlandref06_lies.f (k + 1) a0 a1 a2 a3 a4) := by
 intro a0 a1 a2 a3 a4 k
 have ih0:=hinterlandref06_lies.mono_l k
 unfold hinterlandref06_lies.f
 repeat' first
   | (with_reducible exact ih0 _ _ _ _ _)
   | (with_reducible exact hinterlandref02_Face.mono _ _ _ _ _)
   | (with_reducible exact hinterlandref02_Sea.mono _ _ _ _ _)
   | (with_reducible exact LeO.refl _)
   | (with_reducible exact LeO.none _)
   | (with_reducible refine LeO.ite ?_ ?_)
   | (with_reducible refine LeO.bind ?_ (fun _ => ?_))
   | exact ih0 _ _ _ _ _
   | exact hinterlandref02_Face.mono _ _ _ _ _
   | exact hinterlandref02_Sea.mono _ _ _ _ _
   | exact LeO.none _
   | refine LeO.ite ?_ ?_
   | refine LeO.bind ?_ (fun _ => ?_)
set_option maxHeartbeats 8000000 in
set_option maxRecDepth 100000 in
theorem hinterlandref06_lies.calls (k : Nat) (a0_0 : Int) (a0_1 : Int) (A0_2 : Option Addr) (c0_2 : Nat) (l0_2 : List Int) (a1 : Int) (a2 : Int) (r : Int) (w : World) (hr0_2 : Kd.C (Kd.int .i64) w A0_2 l0_2.length l0_2) (hc0_2 : l0_2.length ≤ c0_2) (h : hinterlandref06_lies.f k a0_0 a0_1 l0_2 a1 a2 = some r) :
  Calls Try.prog 49 #[.agg #[.int .i64 a0_0,.int .i64 a0_1,.slice A0_2 l0_2.length c0_2],.int .i64 a1,.int .i64 a2] w fun e w' => e = .returned (.int .i64 r) ∧ Below w.heap.size w w':=by
 have hu24:=Try.underlying24
 have HR0_2:=Aside0.mk hr0_2
 have HC0_2:=Aside0.mk hc0_2
 clear hr0_2 hc0_2
 have HB:=Aside0.mk (Below.refl w.heap.size w)
 have H : ((hinterlandref02_Face.f k a0_0 a0_1 l0_2 a1).bind fun bt391 => ((hinterlandref02_Sea.f k a0_0 a0_1 l0_2 a1).bind fun t393 => (if a2 = 1 then (hinterlandref06_lies.j0 k a2 bt391.1 t393 a2 (a2 == 1)) else (hinterlandref06_lies.j0 k a2 bt391.1 t393 a2 (a2 == 2))))) = some r:=h
 clear h
 replace H:=Option.bind_eq_some_iff.mp H
 obtain ⟨⟨t391,t392⟩,A40,H⟩:=H
 replace H : ((hinterlandref02_Sea.f k a0_0 a0_1 l0_2 a1).bind fun t393 => (if a2 = 1 then (hinterlandref06_lies.j0 k a2 t391 t393 a2 (a2 == 1)) else (hinterlandref06_lies.j0 k a2 t391 t393 a2 (a2 == 2)))) = some r:=H
 have A4:=Aside0.mk A40
 clear A40
 replace H:=Option.bind_eq_some_iff.mp H
 obtain ⟨t393,A50,H⟩:=H
 replace H : (if a2 = 1 then (hinterlandref06_lies.j0 k a2 t391 t393 a2 (a2 == 1)) else (hinterlandref06_lies.j0 k a2 t391 t393 a2 (a2 == 2))) = some r:=H
 have A5:=Aside0.mk A50
 clear A50
 have HC6:=Aside0.mk H
 clear H
 go_enter Try.func49,Try.ntmps49
 go_upto_if 20 with (first|((with_reducible refine gate_dst (N:=3) rfl ?_);refine box_ev (N:=3) (cs:=#[.int .i64 a0_0,.int .i64 a0_1,.slice A0_2 l0_2.length c0_2]) (t:=24) ?_;intro gb390 hg w7 hbox hb;have BK390:=Aside0.mk (hbox);have GW390 : Aside0 (w.heap.size ≤ gb390):=gsz hg;have GE390:=GW390;replace HB:=hbs hb;clear hb hbox hg;obtain ⟨_,_,_,_,_,_⟩:=cells3 BK390.out)|((with_reducible refine gate_callee (f:=50) rfl ?_);refine goesL_ (some 13) rfl rfl Try.func50 (by kernel_rfl) rfl #[.agg #[.int .i64 a0_0,.int .i64 a0_1,.slice A0_2 l0_2.length c0_2],.int .i64 a1] rfl ga_ ?_;(with_reducible refine (hinterlandref02_Face.calls k a0_0 a0_1 _ _ l0_2 a1 t391 t392 _ ?_ ?_ A4.out).mono ?_);exact cq HR0_2;exact HC0_2.out;rintro e w9 ⟨rfl,hb⟩;refine ⟨_,rfl,?_⟩;replace BK390:=bkb BK390 hb;replace HB:=hbs hb;obtain ⟨_,_,_,_,_,_⟩:=cells3 BK390.out)|((with_reducible refine gate_callee (f:=51) rfl ?_);refine goesL_ (some 18) rfl rfl Try.func51 (by kernel_rfl) rfl #[.agg #[.int .i64 a0_0,.int .i64 a0_1,.slice A0_2 l0_2.length c0_2],.int .i64 a1] rfl ga_ ?_;(with_reducible refine (hinterlandref02_Sea.calls k a0_0 a0_1 _ _ l0_2 a1 t393 _ ?_ ?_ A5.out).mono ?_);exact cq HR0_2;exact HC0_2.out;rintro e w11 ⟨rfl,hb⟩;refine ⟨_,rfl,?_⟩;replace BK390:=bkb BK390 hb;replace HB:=hbs hb))
 (try simp only [Act.put,List.setIfInBounds_toArray,List.set_cons_zero,List.set_cons_succ])
 go_cut [20] (fun v20 wc => ∃ (kq : Nat) (x20_5 : Bool),v20 = .bool x20_5 ∧ Aside0 (hinterlandref06_lies.j0 kq a2 t391 t393 a2 x20_5 = some r) ∧ Aside0 (kq ≤ k) ∧ Aside0 (wc.heap[gb390]? = some (.cells #[.int .i64 a0_0,.int .i64 a0_1,(.slice A0_2 l0_2.length c0_2)] 24 (0,0))) ∧ Aside0 (Below w.heap.size w wc))
 case first =>
  have H:=HC6.out
  clear HC6
  by_cases c12 : a2 = 1
  ·rw [if_pos c12] at H
   have c12b0:=bqt c12
   have c12b1:=bnf c12
   clear c12
   (first|rw [c12b0]|(simp only [i64_w,i32_w];rw [c12b0])|skip)
   have H':=Aside0.mk H
   clear H
   go_wp2
   go_meet
   case rel => exact ⟨_,((a2 == 1)),(by first|rfl|(simp;done)|(simp [*];done)),H',⟨by first|omega|exact Nat.le_refl _⟩,⟨blk_up BK390.out⟩,⟨hb_⟩⟩
  ·rw [if_neg c12] at H
   have c12b0:=bqf c12
   have c12b1:=bnt c12
   (first|rw [c12b0]|(simp only [i64_w,i32_w];rw [c12b0])|skip)
   have H':=Aside0.mk H
   clear H
   go_wp2
   go_meet
   case rel => exact ⟨_,((a2 == 2)),(by first|rfl|(simp;done)|(simp [*];done)),H',⟨by first|omega|exact Nat.le_refl _⟩,⟨blk_up BK390.out⟩,⟨hb_⟩⟩
 case rest =>
  clear HC6
  obtain ⟨kq,x20_5,rfl,HA,HJ5,BK390,HB⟩:=hcut
  cases kq with
  | zero => exact absurd HA.out (by simp [hinterlandref06_lies.j0])
  | succ kj5 =>
   have H:=HA.out
   clear HA
   simp only [hinterlandref06_lies.j0] at H
   by_cases c13 : x20_5 = true
   ·subst c13
    have H1 : (if t393 = true then (some 9) else (if a2 = 1 then (if t391 = 0 then (if a2 = 2 then ((hinterlandref06_upper.f t391).bind fun t394 => (if t394 < 0 then (some 5) else (some 0))) else (some 0)) else (some 5)) else (if a2 = 2 then ((hinterlandref06_upper.f t391).bind fun t395 => (if t395 < 0 then (some 5) else (some 0))) else (some 0)))) = some r:=by rw [if_pos rfl] at H;exact H
    clear H
    have H:=H1
    clear H1
    by_cases c14 : t393 = true
    ·subst c14
     have H1 : (some 9) = some r:=by rw [if_pos rfl] at H;exact H
     clear H
     have H:=H1
     clear H1
     obtain rfl:=Option.some.inj H
     go_wp2
     go_ret
     exact ⟨er_,hb_⟩
    ·replace c14:=Bool.eq_false_iff.mpr c14
     subst c14
     have H1 : (if a2 = 1 then (if t391 = 0 then (if a2 = 2 then ((hinterlandref06_upper.f t391).bind fun t394 => (if t394 < 0 then (some 5) else (some 0))) else (some 0)) else (some 5)) else (if a2 = 2 then ((hinterlandref06_upper.f t391).bind fun t395 => (if t395 < 0 then (some 5) else (some 0))) else (some 0))) = some r:=by rw [if_neg (show ¬ (false = true) by decide)] at H;exact H
     clear H
     have H:=H1
     clear H1
     by_cases c15 : a2 = 1
     rotate_left
     ·rw [if_neg c15] at H
      have c15b0:=bqf c15
      have c15b1:=bnt c15
      by_cases c20 : a2 = 2
      ·rw [if_pos c20] at H
       have c20b0:=bqt c20
       have c20b1:=bnf c20
       clear c20
       replace H:=Option.bind_eq_some_iff.mp H
       obtain ⟨t395,A210,H⟩:=H
       replace H : (if t395 < 0 then (some 5) else (some 0)) = some r:=H
       have A21:=Aside0.mk A210
       clear A210
       by_cases c22 : t395 < 0
       ·rw [if_pos c22] at H
        have c22b0 : decide (t395 < 0) = true:=decide_eq_true c22
        clear c22
        obtain rfl:=Option.some.inj H
        go_wp2_with (first|(go_at_call 63;(with_reducible refine (hinterlandref06_upper.calls t391 t395 _ A21.out).mono ?_);rintro e w' ⟨rfl,⟨nd,rfl⟩⟩))
        go_ret
        exact ⟨er_,hb_⟩
       ·rw [if_neg c22] at H
        have c22b0 : decide (t395 < 0) = false:=decide_eq_false c22
        clear c22
        obtain rfl:=Option.some.inj H
        go_wp2_with (first|(go_at_call 63;(with_reducible refine (hinterlandref06_upper.calls t391 t395 _ A21.out).mono ?_);rintro e w' ⟨rfl,⟨nd,rfl⟩⟩))
        go_ret
        exact ⟨er_,hb_⟩
      ·rw [if_neg c20] at H
       have c20b0:=bqf c20
       have c20b1:=bnt c20
       obtain rfl:=Option.some.inj H
       go_wp2
       go_ret
       exact ⟨er_,hb_⟩
     rw [if_pos c15] at H
     have c15b0:=bqt c15
     have c15b1:=bnf c15
     clear c15
     by_cases c16 : t391 = 0
     ·rw [if_pos c16] at H
      have c16b0:=bqt c16
      have c16b1:=bnf c16
      clear c16
      by_cases c17 : a2 = 2
      ·rw [if_pos c17] at H
       have c17b0:=bqt c17
       have c17b1:=bnf c17
       clear c17
       replace H:=Option.bind_eq_some_iff.mp H
       obtain ⟨t394,A180,H⟩:=H
       replace H : (if t394 < 0 then (some 5) else (some 0)) = some r:=H
       have A18:=Aside0.mk A180
       clear A180
       by_cases c19 : t394 < 0
       ·rw [if_pos c19] at H
        have c19b0 : decide (t394 < 0) = true:=decide_eq_true c19
        clear c19
        obtain rfl:=Option.some.inj H
        go_wp2_with (first|(go_at_call 63;(with_reducible refine (hinterlandref06_upper.calls t391 t394 _ A18.out).mono ?_);rintro e w' ⟨rfl,⟨nd,rfl⟩⟩))
        go_ret
        exact ⟨er_,hb_⟩
       ·rw [if_neg c19] at H
        have c19b0 : decide (t394 < 0) = false:=decide_eq_false c19
        clear c19
        obtain rfl:=Option.some.inj H
        go_wp2_with (first|(go_at_call 63;(with_reducible refine (hinterlandref06_upper.calls t391 t394 _ A18.out).mono ?_);rintro e w' ⟨rfl,⟨nd,rfl⟩⟩))
        go_ret
        exact ⟨er_,hb_⟩
      ·rw [if_neg c17] at H
       have c17b0:=bqf c17
       have c17b1:=bnt c17
       obtain rfl:=Option.some.inj H
       go_wp2
       go_ret
       exact ⟨er_,hb_⟩
     ·rw [if_neg c16] at H
      have c16b0:=bqf c16
      have c16b1:=bnt c16
      obtain rfl:=Option.some.inj H
      go_wp2
      go_ret
      exact ⟨er_,hb_⟩
   ·replace c13:=Bool.eq_false_iff.mpr c13
    subst c13
    have H1 : (if a2 = 3 then (if t393 = true then (some 0) else (if t391 = 0 then (some 0) else (some 9))) else (some 0)) = some r:=by rw [if_neg (show ¬ (false = true) by decide)] at H;exact H
    clear H
    have H:=H1
    clear H1
    by_cases c23 : a2 = 3
    ·rw [if_pos c23] at H
     have c23b0:=bqt c23
     have c23b1:=bnf c23
     clear c23
     by_cases c24 : t393 = true
     ·subst c24
      have H1 : (some 0) = some r:=by rw [if_pos rfl] at H;exact H
      clear H
      have H:=H1
      clear H1
      obtain rfl:=Option.some.inj H
      go_wp2
      go_ret
      exact ⟨er_,hb_⟩
     ·replace c24:=Bool.eq_false_iff.mpr c24
      subst c24
      have H1 : (if t391 = 0 then (some 0) else (some 9)) = some r:=by rw [if_neg (show ¬ (false = true) by decide)] at H;exact H
      clear H
      have H:=H1
      clear H1
      by_cases c25 : t391 = 0
      ·rw [if_pos c25] at H
       have c25b0:=bqt c25
       have c25b1:=bnf c25
       clear c25
       obtain rfl:=Option.some.inj H
       go_wp2
       go_ret
       exact ⟨er_,hb_⟩
      ·rw [if_neg c25] at H
       have c25b0:=bqf c25
       have c25b1:=bnt c25
       obtain rfl:=Option.some.inj H
       go_wp2
       go_ret
       exact ⟨er_,hb_⟩
    ·rw [if_neg c23] at H
     have c23b0:=bqf c23
     have c23b1:=bnt c23
     obtain rfl:=Option.some.inj H
     go_wp2
     go_ret
     exact ⟨er_,hb_⟩

end Go.Proofs.Ytiencnnkphipoaa.P

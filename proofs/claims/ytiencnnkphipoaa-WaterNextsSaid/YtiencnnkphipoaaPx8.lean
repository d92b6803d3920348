/- Functions of this seat as plain Lean functions, with proofs that the Go code comes to just their answers, or what stands between them and a law's statement; no conditions. (Laid by a program of this session, out of the kit's print.) -/
import Derived.Test.YtiencnnkphipoaaPx0
import Derived.Test.YtiencnnkphipoaaPx4
import Derived.Test.YtiencnnkphipoaaPx6
import Derived.Test.YtiencnnkphipoaaPx7
namespace Go.Proofs.Ytiencnnkphipoaa.P
open Go.RowKit Go.Proofs.YtiencnnkphipoaaW.PrintWords Go.Proofs.YtiencnnkphipoaaW.PrintLast Go.Proofs.YtiencnnkphipoaaW.PrintMore
attribute [local go_sem] max2_int min2_int max_two min_two max_three min_three max_four min_four   -- for this text's walks alone
set_option linter.unusedVariables false
set_option linter.unusedSimpArgs false

/-! ### hinterlandlaw06_sea: function 39 -/
def hinterlandlaw06_sea.f  : Option (Int × Int × List Int) := if 25 ≤ 35184372088832 then (some (4, 4, (List.replicate 25 0))) else (none)
set_option maxHeartbeats 8000000 in
set_option maxRecDepth 100000 in
theorem hinterlandlaw06_sea.calls  (r1 : Int) (r2 : Int) (r3 : List Int) (w : World) (h : hinterlandlaw06_sea.f  = some (r1, r2, r3)) :
  Calls Try.prog 39 #[] w fun e w' => ∃ v2_ : Value,e = .returned (.agg #[.int .i64 r1,.int .i64 r2,v2_]) ∧ Kd.R (Kd.int .i64) 3 w' w.heap.size (fun _ => True) v2_ r3 ∧ Below w.heap.size w w':=by
 have hu24:=Try.underlying24
 have HB:=Aside0.mk (Below.refl w.heap.size w)
 have H : (if 25 ≤ 35184372088832 then (some (4,4,(List.replicate 25 0))) else (none)) = some (r1,r2,r3):=h
 clear h
 replace H:=ifp_ H;obtain ⟨c1,H⟩:=H
 have c1b0:=eq_true c1
 have c1b1 : decide (25 ≤ 35184372088832) = true:=decide_eq_true c1
 clear c1
 obtain ⟨y271,hy271⟩ : ∃ y_ : List Int,y_ = (List.replicate 25 0):=⟨_,rfl⟩
 replace H : (some (4,4,y271)) = some (r1,r2,r3):=by first|(rw [hy271];with_reducible exact H)|(have H2_:=(Option.bind_some _ _).symm.trans H;rw [hy271];with_reducible exact H2_)|(have H2_:=(Option.bind_some _ _).symm.trans H;with_reducible exact H2_)|with_reducible exact H|(rw [hy271];exact H)|exact H
 have Ny271:=Aside0.mk hy271
 clear hy271
 simp only [Option.some.injEq,Prod.mk.injEq] at H
 obtain ⟨rfl,rfl,rfl⟩:=H
 go_enter Try.func39,Try.ntmps39
 go_wp2_with (first|((with_reducible refine gate_dst (N:=0) rfl ?_);refine box_ev (N:=0) (cs:=#[.int .i64 0,.int .i64 0,.slice none 0 0]) (t:=24) ?_;intro gb270 hg w2 hbox hb;have BK270:=Aside0.mk (hbox);have GW270 : Aside0 (w.heap.size ≤ gb270):=gsz hg;have GE270:=GW270;replace HB:=Aside0.mk (below_step (hb_) hb);clear hb hbox hg)|((with_reducible refine gate_dst (N:=1) rfl ?_);refine Kd.R_make (Kd.int .i64) _ 3 rfl (N:=1) rfl 22 _ _ rfl 25 rfl rfl Try.underlying22 (.int .i64 0) 8 info3 rfl (by decide) (by omega) 0 (ok:=fun _ => True) (okp:=fun _ => True) rfl (fun _ hk => hk) trivial (by omega) (by omega) (Below.refl _ _) (Nat.le_refl _) ?_;intro v272 w3 ho4 hb hg_ hnew_;clear hg_ hnew_;(first|rw [← Ny271.out] at ho4|(simp only [Int.reduceToNat] at ho4;rw [← Ny271.out] at ho4));have HO273:=rlo ho4;replace BK270:=bkb BK270 hb;replace HB:=Aside0.mk (below_step (hb_) hb);clear hb ho4;obtain ⟨Ao5,co5,eo5⟩:=Kd.R_slice HO273.out;subst eo5;obtain ⟨hcz6_0,hcz6_1,hcz6_2,hfz6_0,hfz6_1,hfz6_2⟩:=cells3 BK270.out))
 refine bodyPost_ret (results_cell_row rfl _ _ gb270 24 #[.int .i64 4,.int .i64 4,.slice Ao5 y271.length co5] (0,0) _ rfl (by (with_reducible repeat (first|refine blk_drewN ?_ _|refine blk_drew ?_|refine blk_alloc ?_ _));exact blk_puts3 (blk_up BK270.out)) Try.underlying24 rfl (by kernel_rfl)) rfl ?_
 exact ⟨_,by first|rfl|(simp [errW_none,errW_some] <;> rfl)|(simp [*,errW_none,errW_some] <;> rfl),by (with_reducible repeat (first|apply Kd.R_alloc|apply Kd.R_drewN|apply Kd.R_drew));exact Kd.R_mono (Kd.R_fars gb270 (Kd.R_types HO273.out BK270.out (by decide)) (fun _ hk => hk.2)) (fun _ hk => trivial),hb_⟩

/-! ### hinterlandlaw06_known: function 15 -/
def hinterlandlaw06_known.j0 : Nat → Bool → Option (Bool)
 | 0,_ => none
 | k + 1,x0 => some x0
def hinterlandlaw06_known.f (k : Nat)  : Option (Bool) := if 16 ≤ 35184372088832 then ((some (List.replicate 16 0 : List Int)).bind fun y274 => ((hinterlandlaw06_sea.f).bind fun bt278 => ((water_Joined.f k bt278.1 bt278.2.1 bt278.2.2 y274 ([] : List Int) 0 0).bind fun bt283 => ((hinterlandlaw06_sea.f).bind fun bt285 => ((water_Sail.f k bt285.1 bt285.2.1 bt285.2.2 y274 ([] : List Int) 5 5).bind fun bt290 => (if bt283.1 = true then (if bt283.2 = 0 then (if bt290.2 = 0 then (if (bt290.1.length : Int) = 1 then (if 0 < (bt290.1.length : Int) then (hinterlandlaw06_known.j0 k ((rd bt290.1 0) == 5)) else (none)) else (hinterlandlaw06_known.j0 k false)) else (hinterlandlaw06_known.j0 k false)) else (hinterlandlaw06_known.j0 k false)) else (hinterlandlaw06_known.j0 k false))))))) else (none)
theorem hinterlandlaw06_known.mono_l : ∀ k, (∀ y0, LeO (hinterlandlaw06_known.j0 k y0) (hinterlandlaw06_known.j0 (k + 1) y0))
 | 0 => fun _ r h => by simp [hinterlandlaw06_known.j0] at h
 | k + 1 => by
  have ih0:=hinterlandlaw06_known.mono_l k
  ·intro y0
   unfold hinterlandlaw06_known.j0
   repeat' first
   | (with_reducible exact ih0 _)
   | (with_reducible exact water_Joined.mono _ _ _ _ _ _ _ _)
   | (with_reducible exact water_Sail.mono _ _ _ _ _ _ _ _)
   | (with_reducible exact LeO.refl _)
   | (with_reducible exact LeO.none _)
   | (with_reducible refine LeO.ite ?_ ?_)
   | (with_reducible refine LeO.bind ?_ (fun _ => ?_))
   | exact ih0 _
   | exact water_Joined.mono _ _ _ _ _ _ _ _
   | exact water_Sail.mono _ _ _ _ _ _ _ _
   | exact LeO.none _
   | refine LeO.ite ?_ ?_
   | refine LeO.bind ?_ (fun _ => ?_)
theorem hinterlandlaw06_known.mono : ∀ k, LeO (hinterlandlaw06_known.f k ) (hinterlandlaw06_known.f (k + 1) ) := by
 intro  k
 have ih0:=hinterlandlaw06_known.mono_l k
 unfold hinterlandlaw06_known.f
 repeat' first
   | (with_reducible exact ih0 _)
   | (with_reducible exact water_Joined.mono _ _ _ _ _ _ _ _)
   | (with_reducible exact water_Sail.mono _ _ _ _ _ _ _ _)
   | (with_reducible exact LeO.refl _)
   | (with_reducible exact LeO.none _)
   | (with_reducible refine LeO.ite ?_ ?_)
   | (with_reducible refine LeO.bind ?_ (fun _ => ?_))
   | exact ih0 _
   | exact water_Joined.mono _ _ _ _ _ _ _ _
   | exact water_Sail.mono _ _ _ _ _ _ _ _
   | exact LeO.none _
   | refine LeO.ite ?_ ?_
   | refine LeO.bind ?_ (fun _ => ?_)
def hinterlandlaw06_known.T2 : Bool × List (List Nat × List Nat) := (true, [([], []), ([], []), ([0, 1, 0], [0, 1]), ([2], [2]), ([3], [3]), ([3], [3]), ([4, 2, 0, 1, 2, 3, 4], [4]), ([5, 6, 0, 1, 2, 3, 4, 5, 6], [5])])
def hinterlandlaw06_known.B2 : List Nat := [0, 0, 3, 7, 15, 15, 31, 127]
theorem hinterlandlaw06_known.tab2 : rtab .any (opsOf Try.f15 2) = hinterlandlaw06_known.T2 := by kernel_rfl
theorem hinterlandlaw06_known.bits2 : waitsOk hinterlandlaw06_known.T2.2 hinterlandlaw06_known.B2 = true := by kernel_rfl
def hinterlandlaw06_known.T3 : Bool × List (List Nat × List Nat) := (true, [([], []), ([], []), ([0, 1, 0], [0, 1]), ([2], [2]), ([3], [3]), ([3], [3]), ([4, 2, 0, 1, 2, 3, 4], [4]), ([5, 6, 0, 1, 2, 3, 4, 5, 6], [5])])
def hinterlandlaw06_known.B3 : List Nat := [0, 0, 3, 7, 15, 15, 31, 127]
theorem hinterlandlaw06_known.tab3 : rtab .any (opsOf Try.f15 3) = hinterlandlaw06_known.T3 := by kernel_rfl
theorem hinterlandlaw06_known.bits3 : waitsOk hinterlandlaw06_known.T3.2 hinterlandlaw06_known.B3 = true := by kernel_rfl
set_option maxHeartbeats 8000000 in
set_option maxRecDepth 100000 in
theorem hinterlandlaw06_known.calls (k : Nat)  (r : Bool) (w : World) (h : hinterlandlaw06_known.f k  = some r) :
  Calls Try.prog 15 #[] w fun e w' => e = .returned (.bool r) ∧ Below w.heap.size w w':=by
 have hu26:=Try.underlying26
 have HB:=Aside0.mk (Below.refl w.heap.size w)
 have H : (if 16 ≤ 35184372088832 then ((some (List.replicate 16 0 : List Int)).bind fun y274 => ((hinterlandlaw06_sea.f).bind fun bt278 => ((water_Joined.f k bt278.1 bt278.2.1 bt278.2.2 y274 ([] : List Int) 0 0).bind fun bt283 => ((hinterlandlaw06_sea.f).bind fun bt285 => ((water_Sail.f k bt285.1 bt285.2.1 bt285.2.2 y274 ([] : List Int) 5 5).bind fun bt290 => (if bt283.1 = true then (if bt283.2 = 0 then (if bt290.2 = 0 then (if (bt290.1.length : Int) = 1 then (if 0 < (bt290.1.length : Int) then (hinterlandlaw06_known.j0 k ((rd bt290.1 0) == 5)) else (none)) else (hinterlandlaw06_known.j0 k false)) else (hinterlandlaw06_known.j0 k false)) else (hinterlandlaw06_known.j0 k false)) else (hinterlandlaw06_known.j0 k false))))))) else (none)) = some r:=h
 clear h
 replace H:=ifp_ H;obtain ⟨c1,H⟩:=H
 have c1b0:=eq_true c1
 have c1b1 : decide (16 ≤ 35184372088832) = true:=decide_eq_true c1
 clear c1
 obtain ⟨y274,hy274⟩ : ∃ y_ : List Int,y_ = (List.replicate 16 0):=⟨_,rfl⟩
 replace H : ((hinterlandlaw06_sea.f).bind fun bt278 => ((water_Joined.f k bt278.1 bt278.2.1 bt278.2.2 y274 ([] : List Int) 0 0).bind fun bt283 => ((hinterlandlaw06_sea.f).bind fun bt285 => ((water_Sail.f k bt285.1 bt285.2.1 bt285.2.2 y274 ([] : List Int) 5 5).bind fun bt290 => (if bt283.1 = true then (if bt283.2 = 0 then (if bt290.2 = 0 then (if (bt290.1.length : Int) = 1 then (if 0 < (bt290.1.length : Int) then (hinterlandlaw06_known.j0 k ((rd bt290.1 0) == 5)) else (none)) else (hinterlandlaw06_known.j0 k false)) else (hinterlandlaw06_known.j0 k false)) else (hinterlandlaw06_known.j0 k false)) else (hinterlandlaw06_known.j0 k false)))))) = some r:=by first|(rw [hy274];with_reducible exact H)|(have H2_:=(Option.bind_some _ _).symm.trans H;rw [hy274];with_reducible exact H2_)|(have H2_:=(Option.bind_some _ _).symm.trans H;with_reducible exact H2_)|with_reducible exact H|(rw [hy274];exact H)|exact H
 have Ny274:=Aside0.mk hy274
 clear hy274
 replace H:=Option.bind_eq_some_iff.mp H
 obtain ⟨⟨t278,t279,t280⟩,A20,H⟩:=H
 replace H : ((water_Joined.f k t278 t279 t280 y274 ([] : List Int) 0 0).bind fun bt283 => ((hinterlandlaw06_sea.f).bind fun bt285 => ((water_Sail.f k bt285.1 bt285.2.1 bt285.2.2 y274 ([] : List Int) 5 5).bind fun bt290 => (if bt283.1 = true then (if bt283.2 = 0 then (if bt290.2 = 0 then (if (bt290.1.length : Int) = 1 then (if 0 < (bt290.1.length : Int) then (hinterlandlaw06_known.j0 k ((rd bt290.1 0) == 5)) else (none)) else (hinterlandlaw06_known.j0 k false)) else (hinterlandlaw06_known.j0 k false)) else (hinterlandlaw06_known.j0 k false)) else (hinterlandlaw06_known.j0 k false))))) = some r:=H
 have A2:=Aside0.mk A20
 clear A20
 replace H:=Option.bind_eq_some_iff.mp H
 obtain ⟨⟨t283,t284⟩,A30,H⟩:=H
 replace H : ((hinterlandlaw06_sea.f).bind fun bt285 => ((water_Sail.f k bt285.1 bt285.2.1 bt285.2.2 y274 ([] : List Int) 5 5).bind fun bt290 => (if t283 = true then (if t284 = 0 then (if bt290.2 = 0 then (if (bt290.1.length : Int) = 1 then (if 0 < (bt290.1.length : Int) then (hinterlandlaw06_known.j0 k ((rd bt290.1 0) == 5)) else (none)) else (hinterlandlaw06_known.j0 k false)) else (hinterlandlaw06_known.j0 k false)) else (hinterlandlaw06_known.j0 k false)) else (hinterlandlaw06_known.j0 k false)))) = some r:=H
 have A3:=Aside0.mk A30
 clear A30
 replace H:=Option.bind_eq_some_iff.mp H
 obtain ⟨⟨t285,t286,t287⟩,A40,H⟩:=H
 replace H : ((water_Sail.f k t285 t286 t287 y274 ([] : List Int) 5 5).bind fun bt290 => (if t283 = true then (if t284 = 0 then (if bt290.2 = 0 then (if (bt290.1.length : Int) = 1 then (if 0 < (bt290.1.length : Int) then (hinterlandlaw06_known.j0 k ((rd bt290.1 0) == 5)) else (none)) else (hinterlandlaw06_known.j0 k false)) else (hinterlandlaw06_known.j0 k false)) else (hinterlandlaw06_known.j0 k false)) else (hinterlandlaw06_known.j0 k false))) = some r:=H
 have A4:=Aside0.mk A40
 clear A40
 replace H:=Option.bind_eq_some_iff.mp H
 obtain ⟨⟨t290,t293⟩,A50,H⟩:=H
 replace H : (if t283 = true then (if t284 = 0 then (if t293 = 0 then (if (t290.length : Int) = 1 then (if 0 < (t290.length : Int) then (hinterlandlaw06_known.j0 k ((rd t290 0) == 5)) else (none)) else (hinterlandlaw06_known.j0 k false)) else (hinterlandlaw06_known.j0 k false)) else (hinterlandlaw06_known.j0 k false)) else (hinterlandlaw06_known.j0 k false)) = some r:=H
 have A5:=Aside0.mk A50
 clear A50
 have HC6:=Aside0.mk H
 clear H
 go_enter Try.func15,Try.ntmps15
 try go_wp2_with (first|((with_reducible refine gate_dst (N:=6) rfl ?_);(try (refine gate_guard (by rfl) ?_;dsimp only));refine Kd.R_make (Kd.int .i64) _ 3 rfl (N:=6) rfl 22 _ _ rfl 16 rfl rfl Try.underlying22 (.int .i64 0) 8 info3 rfl (by decide) (by omega) 0 (ok:=fun _ => True) (okp:=fun _ => True) rfl (fun _ hk => hk) trivial (by omega) (by omega) (Below.refl _ _) (Nat.le_refl _) ?_;intro v275 w7 ho8 hb hg_ hnew_;clear hg_ hnew_;(first|rw [← Ny274.out] at ho8|(simp only [Int.reduceToNat] at ho8;rw [← Ny274.out] at ho8));have HO276:=rlo ho8;replace HB:=Aside0.mk (below_step (hb_) hb);clear hb ho8;obtain ⟨Ao9,co9,eo9⟩:=Kd.R_slice HO276.out;subst eo9)|((with_reducible refine gate_dst (N:=1) rfl ?_);(try (refine gate_guard (by rfl) ?_;dsimp only));refine box_ev (N:=1) (cs:=#[.slice none 0 0,.slice none 0 0]) (t:=26) ?_;intro gb277 hg w10 hbox hb;have BK277:=Aside0.mk (hbox);have GW277 : Aside0 (w.heap.size ≤ gb277):=gsz hg;have GE277:=GW277;replace HO276:=rbw HO276 hb;replace HB:=Aside0.mk (below_step (hb_) hb);clear hb hbox hg;obtain ⟨hcz11_0,hcz11_1,hfz11_0,hfz11_1⟩:=cells2 BK277.out))
 have n0_ : Aside0 (Kd.R (Kd.int .i64) 3 ((w10.setCell ⟨gb277,0,none⟩ (.slice Ao9 y274.length co9)).setCell ⟨gb277,1,none⟩ (.slice none 0 0)) w.heap.size (fun _ => True) (.slice Ao9 y274.length co9) y274):=⟨by (with_reducible repeat (first|apply Kd.R_alloc|apply Kd.R_drewN|apply Kd.R_drew));exact Kd.R_mono (Kd.R_fars gb277 (Kd.R_types HO276.out BK277.out (by decide)) (fun _ hk => hk.2)) (fun _ hk => trivial)⟩
 have n1_ : Aside0 (((w10.setCell ⟨gb277,0,none⟩ (.slice Ao9 y274.length co9)).setCell ⟨gb277,1,none⟩ (.slice none 0 0)).heap[gb277]? = some (.cells #[.slice Ao9 y274.length co9,.slice none 0 0] 26 (0,0))):=⟨by (with_reducible repeat (first|refine blk_drewN ?_ _|refine blk_drew ?_|refine blk_alloc ?_ _));exact blk_puts2 (blk_up BK277.out)⟩
 have n2_ : Aside0 (Below w.heap.size w ((w10.setCell ⟨gb277,0,none⟩ (.slice Ao9 y274.length co9)).setCell ⟨gb277,1,none⟩ (.slice none 0 0))):=⟨hb_⟩
 (try clear HO276)
 (try clear BK277)
 (try clear HB)
 generalize ((w10.setCell ⟨gb277,0,none⟩ (.slice Ao9 y274.length co9)).setCell ⟨gb277,1,none⟩ (.slice none 0 0)) = w12 at n0_ n1_ n2_ ⊢
 have HO276:=n0_
 have BK277:=n1_
 have HB:=n2_
 clear n0_ n1_ n2_
 replace HO276:=Aside0.mk (Kd.R_drew HO276.out)
 replace BK277:=Aside0.mk (blk_drew BK277.out)
 replace HB:=Aside0.mk (below_drew1 HB.out)
 refine start_ (n:=8) (S:=fun w' => w'.cell? ⟨gb277,0,none⟩ = some (.slice Ao9 y274.length co9) ∧ w'.cell? ⟨gb277,1,none⟩ = some (.slice none 0 0)) (ds:=[]) #[false,false,false,false,false,false,false,false] (by kernel_rfl) rfl rfl ⟨(blk_cell BK277.out 0).trans rfl,(blk_cell BK277.out 1).trans rfl⟩ (fun hHeld => ?_);refine with_tabW hinterlandlaw06_known.tab2 hinterlandlaw06_known.bits2 (fun HT_ HW_ => ?_)
 generalize w12.drew = w13 at HO276 BK277 HB HO276 hHeld ⊢
 refine tI2 1 (some 10) hHeld ?_
 refine oI 0 (some 9) (fun K hK => ?_)
 refine goes_ Try.func39 (by kernel_rfl) rfl #[] (by rfl) rfl rfl (by (try simp only [List.map_toArray,List.map_cons,List.map_nil]);first|done|rfl|(simp only [List.length_drop,List.length_take];rfl)) ?_
 with_reducible refine (hinterlandlaw06_sea.calls  t278 t279 t280 _ A2.out).mono ?_
 rintro e w14 ⟨v281,rfl,ho0,hb⟩
 refine ⟨_,rfl,?_⟩
 have n0_:=Aside0.mk (Kd.R_elder' (Kd.R_up HO276.out) (Kd.R_base ho0) hb)
 have n1_:=Aside0.mk (Kd.R_lower (Kd.R_new' ho0 (Kd.R_lt (Kd.R_up HO276.out))) (below_size (hb_)))
 have n2_:=bkb BK277 hb
 have n3_:=Aside0.mk (below_step (hb_) hb)
 clear HO276
 clear BK277
 clear HB
 have HO276:=n0_
 have HO282:=n1_
 have BK277:=n2_
 have HB:=n3_
 clear n0_ n1_ n2_ n3_
 (try clear hb)
 (try clear hb2)
 (try clear hk)
 (try clear hi)
 (try clear ho0)
 obtain ⟨Ao15,co15,eo15⟩:=Kd.R_slice HO282.out
 (first|subst eo15|(injection eo15 with f1_ f2_ f3_;have f4_:=f1_.symm;have f5_:=f3_.symm;clear f1_ f2_ f3_;subst f4_;subst f5_))
 refine hK.out _ _ ⟨(blk_cell BK277.out 0).trans rfl,(blk_cell BK277.out 1).trans rfl⟩ (fun hHeld => ?_)
 clear hK K
 refine norm_ (a':=?_) ?_ ?_
 rotate_left
 ·show Act.put _ (some 9) _ = _
  simp only [Act.put,List.setIfInBounds_toArray,List.set_cons_zero,List.set_cons_succ,i64_w,i32_w]
  rfl
 refine oI 2 (some 11) (fun K hK => ?_)
 refine goes_ Try.func16 (by kernel_rfl) rfl #[.agg #[.int .i64 t278,.int .i64 t279,.slice Ao15 t280.length co15],.agg #[.slice Ao9 y274.length co9,.slice none 0 0],.int .i64 0,.int .i64 0] (by rfl) rfl rfl (by (try simp only [List.map_toArray,List.map_cons,List.map_nil]);first|done|rfl|(simp only [List.length_drop,List.length_take];rfl)) ?_
 refine (water_Joined.calls k t278 t279 _ _ t280 _ _ y274 _ _ ([] : List Int) 0 0 t283 t284 _ ?side1 ?side2 ?side3 ?side4 ?side5 ?side6 A3.out).mono ?_
 (case side1 => exact Kd.C_up (Kd.R_reads' HO282.out).2.2)
 (case side2 => exact (Kd.R_reads' HO282.out).2.1)
 (case side3 => exact Kd.C_up (Kd.R_reads' HO276.out).2.2)
 (case side4 => exact (Kd.R_reads' HO276.out).2.1)
 (case side5 => exact Kd.C_nil _ _)
 (case side6 => exact Nat.le_refl _)
 rintro e w16 ⟨rfl,hb⟩
 refine ⟨_,rfl,?_⟩
 have n0_:=rbw HO276 hb
 have n1_:=rbw HO282 hb
 have n2_:=bkb BK277 hb
 have n3_:=Aside0.mk (below_step (hb_) hb)
 clear HO276
 clear HO282
 clear BK277
 clear HB
 have HO276:=n0_
 have HO282:=n1_
 have BK277:=n2_
 have HB:=n3_
 clear n0_ n1_ n2_ n3_
 (try clear hb)
 (try clear hb2)
 (try clear hk)
 (try clear hi)
 refine hK.out _ _ ⟨(blk_cell BK277.out 0).trans rfl,(blk_cell BK277.out 1).trans rfl⟩ (fun hHeld => ?_)
 clear hK K
 refine norm_ (a':=?_) ?_ ?_
 rotate_left
 ·show Act.put _ (some 11) _ = _
  simp only [Act.put,List.setIfInBounds_toArray,List.set_cons_zero,List.set_cons_succ,i64_w,i32_w]
  rfl
 refine pI 3 (some 8) ?_
 refine pI 4 (some 12) ?_
 refine pI 5 (some 13) ?_
 refine pI 6 (some 2) ?_
 refine pI 7 (some 3) ?_
 refine done_ (done_of HT_.out (by kernel_rfl)) ?_
 try go_wp2
 replace HO276:=Aside0.mk (Kd.R_drew HO276.out)
 replace HO282:=Aside0.mk (Kd.R_drew HO282.out)
 replace BK277:=Aside0.mk (blk_drew BK277.out)
 replace HB:=Aside0.mk (below_drew1 HB.out)
 refine start_ (n:=8) (S:=fun w' => w'.cell? ⟨gb277,0,none⟩ = some (.slice Ao9 y274.length co9) ∧ w'.cell? ⟨gb277,1,none⟩ = some (.slice none 0 0)) (ds:=[]) #[false,false,false,false,false,false,false,false] (by kernel_rfl) rfl rfl ⟨(blk_cell BK277.out 0).trans rfl,(blk_cell BK277.out 1).trans rfl⟩ (fun hHeld => ?_);refine with_tabW hinterlandlaw06_known.tab3 hinterlandlaw06_known.bits3 (fun HT_ HW_ => ?_)
 generalize w16.drew = w17 at HO276 HO282 BK277 HB hHeld ⊢
 refine tI2 1 (some 16) hHeld ?_
 refine oI 0 (some 15) (fun K hK => ?_)
 refine goes_ Try.func39 (by kernel_rfl) rfl #[] (by rfl) rfl rfl (by (try simp only [List.map_toArray,List.map_cons,List.map_nil]);first|done|rfl|(simp only [List.length_drop,List.length_take];rfl)) ?_
 with_reducible refine (hinterlandlaw06_sea.calls  t285 t286 t287 _ A4.out).mono ?_
 rintro e w18 ⟨v288,rfl,ho0,hb⟩
 refine ⟨_,rfl,?_⟩
 have n0_:=Aside0.mk (Kd.R_elder' (Kd.R_up HO276.out) (Kd.R_base ho0) hb)
 have n1_:=Aside0.mk (Kd.R_elder' (Kd.R_up HO282.out) (Kd.R_base ho0) hb)
 have n2_:=Aside0.mk (Kd.R_lower (Kd.R_new' (Kd.R_new' ho0 (Kd.R_lt (Kd.R_up HO276.out))) (Kd.R_lt (Kd.R_up HO282.out))) (below_size (hb_)))
 have n3_:=bkb BK277 hb
 have n4_:=Aside0.mk (below_step (hb_) hb)
 clear HO276
 clear HO282
 clear BK277
 clear HB
 have HO276:=n0_
 have HO282:=n1_
 have HO289:=n2_
 have BK277:=n3_
 have HB:=n4_
 clear n0_ n1_ n2_ n3_ n4_
 (try clear hb)
 (try clear hb2)
 (try clear hk)
 (try clear hi)
 (try clear ho0)
 obtain ⟨Ao19,co19,eo19⟩:=Kd.R_slice HO289.out
 (first|subst eo19|(injection eo19 with f1_ f2_ f3_;have f4_:=f1_.symm;have f5_:=f3_.symm;clear f1_ f2_ f3_;subst f4_;subst f5_))
 refine hK.out _ _ ⟨(blk_cell BK277.out 0).trans rfl,(blk_cell BK277.out 1).trans rfl⟩ (fun hHeld => ?_)
 clear hK K
 refine norm_ (a':=?_) ?_ ?_
 rotate_left
 ·show Act.put _ (some 15) _ = _
  simp only [Act.put,List.setIfInBounds_toArray,List.set_cons_zero,List.set_cons_succ,i64_w,i32_w]
  rfl
 refine oI 2 (some 17) (fun K hK => ?_)
 refine goes_ Try.func19 (by kernel_rfl) rfl #[.agg #[.int .i64 t285,.int .i64 t286,.slice Ao19 t287.length co19],.agg #[.slice Ao9 y274.length co9,.slice none 0 0],.int .i64 5,.int .i64 5] (by rfl) rfl rfl (by (try simp only [List.map_toArray,List.map_cons,List.map_nil]);first|done|rfl|(simp only [List.length_drop,List.length_take];rfl)) ?_
 refine (water_Sail.calls k t285 t286 _ _ t287 _ _ y274 _ _ ([] : List Int) 5 5 t290 t293 _ ?side1 ?side2 ?side3 ?side4 ?side5 ?side6 A5.out).mono ?_
 (case side1 => exact Kd.C_up (Kd.R_reads' HO289.out).2.2)
 (case side2 => exact (Kd.R_reads' HO289.out).2.1)
 (case side3 => exact Kd.C_up (Kd.R_reads' HO276.out).2.2)
 (case side4 => exact (Kd.R_reads' HO276.out).2.1)
 (case side5 => exact Kd.C_nil _ _)
 (case side6 => exact Nat.le_refl _)
 rintro e w20 ⟨v291,rfl,ho0,hb⟩
 refine ⟨_,rfl,?_⟩
 have n0_:=Aside0.mk (Kd.R_elder' (Kd.R_up HO276.out) (Kd.R_base ho0) hb)
 have n1_:=Aside0.mk (Kd.R_elder' (Kd.R_up HO282.out) (Kd.R_base ho0) hb)
 have n2_:=Aside0.mk (Kd.R_elder' (Kd.R_up HO289.out) (Kd.R_base ho0) hb)
 have n3_:=Aside0.mk (Kd.R_lower (Kd.R_new' (Kd.R_new' (Kd.R_new' ho0 (Kd.R_lt (Kd.R_up HO276.out))) (Kd.R_lt (Kd.R_up HO282.out))) (Kd.R_lt (Kd.R_up HO289.out))) (below_size (hb_)))
 have n4_:=bkb BK277 hb
 have n5_:=Aside0.mk (below_step (hb_) hb)
 clear HO276
 clear HO282
 clear HO289
 clear BK277
 clear HB
 have HO276:=n0_
 have HO282:=n1_
 have HO289:=n2_
 have HO292:=n3_
 have BK277:=n4_
 have HB:=n5_
 clear n0_ n1_ n2_ n3_ n4_ n5_
 (try clear hb)
 (try clear hb2)
 (try clear hk)
 (try clear hi)
 (try clear ho0)
 refine hK.out _ _ ⟨(blk_cell BK277.out 0).trans rfl,(blk_cell BK277.out 1).trans rfl⟩ (fun hHeld => ?_)
 clear hK K
 refine norm_ (a':=?_) ?_ ?_
 rotate_left
 ·show Act.put _ (some 17) _ = _
  simp only [Act.put,List.setIfInBounds_toArray,List.set_cons_zero,List.set_cons_succ,i64_w,i32_w]
  rfl
 refine pI 3 (some 14) ?_
 refine pI 4 (some 18) ?_
 refine pI 5 (some 19) ?_
 refine pI 6 (some 4) ?_
 refine pI 7 (some 5) ?_
 refine done_ (done_of HT_.out (by kernel_rfl)) ?_
 go_upto_region 4 with (fail)
 go_cut [0] (fun v0 wc => ∃ (kq : Nat) (x0_5 : Bool),v0 = .bool x0_5 ∧ Aside0 (hinterlandlaw06_known.j0 kq x0_5 = some r) ∧ Aside0 (kq ≤ k) ∧ Aside0 (Kd.R (Kd.int .i64) 3 wc w.heap.size (fun _ => True) (.slice Ao9 y274.length co9) y274) ∧ Aside0 (wc.heap[gb277]? = some (.cells #[(.slice Ao9 y274.length co9),(.slice none 0 0)] 26 (0,0))) ∧ Aside0 (Below w.heap.size w wc))
 case first =>
  have H:=HC6.out
  clear HC6
  by_cases c21 : t283 = true
  ·subst c21
   have H1 : (if t284 = 0 then (if t293 = 0 then (if (t290.length : Int) = 1 then (if 0 < (t290.length : Int) then (hinterlandlaw06_known.j0 k ((rd t290 0) == 5)) else (none)) else (hinterlandlaw06_known.j0 k false)) else (hinterlandlaw06_known.j0 k false)) else (hinterlandlaw06_known.j0 k false)) = some r:=by rw [if_pos rfl] at H;exact H
   clear H
   have H:=H1
   clear H1
   by_cases c22 : t284 = 0
   rotate_left
   ·rw [if_neg c22] at H
    have c22b0 : (t284 == 0) = false:=beq_eq_false_iff_ne.mpr c22
    have c22b1 : (t284 != 0) = true:=bne_iff_ne.mpr c22
    (first|rw [c22b0]|(simp only [i64_w,i32_w];rw [c22b0])|skip)
    have H':=Aside0.mk H
    clear H
    go_wp2
    go_meet
    case rel => exact ⟨_,(false),(by first|rfl|(simp;done)|(simp [*];done)),H',⟨by first|omega|exact Nat.le_refl _⟩,⟨by (with_reducible repeat (first|apply Kd.R_alloc|apply Kd.R_drewN|apply Kd.R_drew));exact Kd.R_mono HO276.out (fun _ hk => trivial)⟩,⟨blk_up BK277.out⟩,⟨hb_⟩⟩
   rw [if_pos c22] at H
   have c22b0 : (t284 == 0) = true:=beq_iff_eq.mpr c22
   have c22b1 : (t284 != 0) = false:=bne_eq_false_iff_eq.mpr c22
   clear c22
   (first|rw [c22b0]|(simp only [i64_w,i32_w];rw [c22b0])|skip)
   by_cases c23 : t293 = 0
   ·rw [if_pos c23] at H
    have c23b0 : (t293 == 0) = true:=beq_iff_eq.mpr c23
    have c23b1 : (t293 != 0) = false:=bne_eq_false_iff_eq.mpr c23
    clear c23
    by_cases c24 : (t290.length : Int) = 1
    ·rw [if_pos c24] at H
     have c24b0 : ((t290.length : Int) == 1) = true:=beq_iff_eq.mpr c24
     have c24b1 : ((t290.length : Int) != 1) = false:=bne_eq_false_iff_eq.mpr c24
     clear c24
     replace H:=ifp_ H;obtain ⟨c25,H⟩:=H
     have c25b0 : decide (0 < (t290.length : Int)) = true:=decide_eq_true c25
     have c25b1 : decide (0 < t290.length) = true:=decide_eq_true (by omega)
     clear c25
     have H':=Aside0.mk H
     clear H
     obtain ⟨Ao26,co26,eo26⟩:=Kd.R_slice HO292.out
     subst eo26
     have p294 : 0 ≤ (0 : Int):=(by omega)
     have q294 : 0 < (t290.length : Int):=of_decide_eq_true (by first|(with_reducible assumption)|assumption)
     obtain ⟨ad294,e294,hx294_0⟩:=Kd.at_int (Kd.R_reads' HO292.out).2.2 0 p294 q294
     cases e294
     have qi294 : (0 < t290.length) = True:=eq_true (by omega)
     (try rw [show ((0 : Int)).toNat = 0 from rfl] at hx294_0)
     (try rw [Addr.add_zero'] at hx294_0)
     replace p294:=eq_true p294
     replace q294:=eq_true q294
     go_wp2
     go_meet
     case rel => exact ⟨_,(((rd t290 0) == 5)),(by first|rfl|(simp;done)|(simp [*];done)),H',⟨by first|omega|exact Nat.le_refl _⟩,⟨by (with_reducible repeat (first|apply Kd.R_alloc|apply Kd.R_drewN|apply Kd.R_drew));exact Kd.R_mono HO276.out (fun _ hk => trivial)⟩,⟨blk_up BK277.out⟩,⟨hb_⟩⟩
    ·rw [if_neg c24] at H
     have c24b0 : ((t290.length : Int) == 1) = false:=beq_eq_false_iff_ne.mpr c24
     have c24b1 : ((t290.length : Int) != 1) = true:=bne_iff_ne.mpr c24
     have H':=Aside0.mk H
     clear H
     obtain ⟨Ao27,co27,eo27⟩:=Kd.R_slice HO292.out
     subst eo27
     go_wp2
     go_meet
     case rel => exact ⟨_,(false),(by first|rfl|(simp;done)|(simp [*];done)),H',⟨by first|omega|exact Nat.le_refl _⟩,⟨by (with_reducible repeat (first|apply Kd.R_alloc|apply Kd.R_drewN|apply Kd.R_drew));exact Kd.R_mono HO276.out (fun _ hk => trivial)⟩,⟨blk_up BK277.out⟩,⟨hb_⟩⟩
   ·rw [if_neg c23] at H
    have c23b0 : (t293 == 0) = false:=beq_eq_false_iff_ne.mpr c23
    have c23b1 : (t293 != 0) = true:=bne_iff_ne.mpr c23
    have H':=Aside0.mk H
    clear H
    go_wp2
    go_meet
    case rel => exact ⟨_,(false),(by first|rfl|(simp;done)|(simp [*];done)),H',⟨by first|omega|exact Nat.le_refl _⟩,⟨by (with_reducible repeat (first|apply Kd.R_alloc|apply Kd.R_drewN|apply Kd.R_drew));exact Kd.R_mono HO276.out (fun _ hk => trivial)⟩,⟨blk_up BK277.out⟩,⟨hb_⟩⟩
  ·replace c21:=Bool.eq_false_iff.mpr c21
   subst c21
   have H1 : (hinterlandlaw06_known.j0 k false) = some r:=by rw [if_neg (show ¬ (false = true) by decide)] at H;exact H
   clear H
   have H:=H1
   clear H1
   have H':=Aside0.mk H
   clear H
   go_wp2
   go_meet
   case rel => exact ⟨_,(false),(by first|rfl|(simp;done)|(simp [*];done)),H',⟨by first|omega|exact Nat.le_refl _⟩,⟨by (with_reducible repeat (first|apply Kd.R_alloc|apply Kd.R_drewN|apply Kd.R_drew));exact Kd.R_mono HO276.out (fun _ hk => trivial)⟩,⟨blk_up BK277.out⟩,⟨hb_⟩⟩
 case rest =>
  clear HC6
  obtain ⟨kq,x0_5,rfl,HA,HJ5,HO_278000,BK277,HB⟩:=hcut
  cases kq with
  | zero => exact absurd HA.out (by simp [hinterlandlaw06_known.j0])
  | succ kj5 =>
   have H:=HA.out
   clear HA
   simp only [hinterlandlaw06_known.j0] at H
   obtain rfl:=Option.some.inj H
   go_wp2
   go_ret
   exact ⟨by first|rfl|(simp [errW_none,errW_some] <;> rfl)|(simp [*,errW_none,errW_some] <;> rfl),hb_⟩

/-! ### water_Validate: function 22 -/
def water_Validate.f (k : Nat) (a0_0 : Int) (a0_1 : Int) (l0_2 : List Int) (l1_0 : List Int) (l1_1 : List Int) : Option (Int) := (water_check.f k a0_0 a0_1 l0_2 l1_0 l1_1).bind fun bt297 => (some bt297.2.2.2.2.2)
theorem water_Validate.mono : ∀ a0 a1 a2 a3 a4 k, LeO (water_Validate.f k a0 a1 a2 a3 a4) (water_Validate.f (k + 1) a0 a1 a2 a3 a4) := by
 intro a0 a1 a2 a3 a4 k
 unfold water_Validate.f
 repeat' first
   | (with_reducible exact water_check.mono _ _ _ _ _ _)
   | (with_reducible exact LeO.refl _)
   | (with_reducible exact LeO.none _)
   | (with_reducible refine LeO.ite ?_ ?_)
   | (with_reducible refine LeO.bind ?_ (fun _ => ?_))
   | exact water_check.mono _ _ _ _ _ _
   | exact LeO.none _
   | refine LeO.ite ?_ ?_
   | refine LeO.bind ?_ (fun _ => ?_)
set_option maxHeartbeats 8000000 in
set_option maxRecDepth 100000 in
theorem water_Validate.calls (k : Nat) (a0_0 : Int) (a0_1 : Int) (A0_2 : Option Addr) (c0_2 : Nat) (l0_2 : List Int) (A1_0 : Option Addr) (c1_0 : Nat) (l1_0 : List Int) (A1_1 : Option Addr) (c1_1 : Nat) (l1_1 : List Int) (r : Int) (w : World) (hr0_2 : Kd.C (Kd.int .i64) w A0_2 l0_2.length l0_2) (hc0_2 : l0_2.length ≤ c0_2) (hr1_0 : Kd.C (Kd.int .i64) w A1_0 l1_0.length l1_0) (hc1_0 : l1_0.length ≤ c1_0) (hr1_1 : Kd.C (Kd.int .i64) w A1_1 l1_1.length l1_1) (hc1_1 : l1_1.length ≤ c1_1) (h : water_Validate.f k a0_0 a0_1 l0_2 l1_0 l1_1 = some r) :
  Calls Try.prog 22 #[.agg #[.int .i64 a0_0,.int .i64 a0_1,.slice A0_2 l0_2.length c0_2],.agg #[.slice A1_0 l1_0.length c1_0,.slice A1_1 l1_1.length c1_1]] w fun e w' => e = .returned (.int .i64 r) ∧ Below w.heap.size w w':=by
 have hu24:=Try.underlying24
 have hu26:=Try.underlying26
 have hu52:=Try.underlying52
 have HR0_2:=Aside0.mk hr0_2
 have HC0_2:=Aside0.mk hc0_2
 clear hr0_2 hc0_2
 have HR1_0:=Aside0.mk hr1_0
 have HC1_0:=Aside0.mk hc1_0
 clear hr1_0 hc1_0
 have HR1_1:=Aside0.mk hr1_1
 have HC1_1:=Aside0.mk hc1_1
 clear hr1_1 hc1_1
 have HB:=Aside0.mk (Below.refl w.heap.size w)
 have H : ((water_check.f k a0_0 a0_1 l0_2 l1_0 l1_1).bind fun bt297 => (some bt297.2.2.2.2.2)) = some r:=h
 clear h
 replace H:=Option.bind_eq_some_iff.mp H
 obtain ⟨⟨t297,t298,t299,t302,t305,t308⟩,A30,H⟩:=H
 replace H : (some t308) = some r:=H
 have A3:=Aside0.mk A30
 clear A30
 obtain rfl:=Option.some.inj H
 go_enter Try.func22,Try.ntmps22
 go_wp2_with (first|((with_reducible refine gate_dst (N:=2) rfl ?_);refine box_ev (N:=2) (cs:=#[.int .i64 a0_0,.int .i64 a0_1,.slice A0_2 l0_2.length c0_2]) (t:=24) ?_;intro gb295 hg w4 hbox hb;have BK295:=Aside0.mk (hbox);have GW295 : Aside0 (w.heap.size ≤ gb295):=gsz hg;have GE295:=GW295;replace HB:=Aside0.mk (below_step (hb_) hb);clear hb hbox hg)|((with_reducible refine gate_dst (N:=3) rfl ?_);refine box_ev (N:=3) (cs:=#[.slice A1_0 l1_0.length c1_0,.slice A1_1 l1_1.length c1_1]) (t:=26) ?_;intro gb296 hg w5 hbox hb;have BK296:=Aside0.mk (hbox);have GW296 : Aside0 (w.heap.size ≤ gb296):=gsz hg;have GE296:=GW296;have NB295_296:=nbl BK295 hg;have NB296_295:=nbr BK295 hg;replace BK295:=bkb BK295 hb;replace HB:=Aside0.mk (below_step (hb_) hb);clear hb hbox hg;have hnb6:=NB295_296.out;have hnc6:=NB296_295.out;obtain ⟨hcz7_0,hcz7_1,hcz7_2,hfz7_0,hfz7_1,hfz7_2⟩:=cells3 BK295.out;obtain ⟨hcz8_0,hcz8_1,hfz8_0,hfz8_1⟩:=cells2 BK296.out)|((with_reducible refine gate_callee (f:=44) rfl ?_);refine goesL_ (some 10) rfl rfl Try.func44 (by kernel_rfl) rfl #[.agg #[.int .i64 a0_0,.int .i64 a0_1,.slice A0_2 l0_2.length c0_2],.agg #[.slice A1_0 l1_0.length c1_0,.slice A1_1 l1_1.length c1_1]] rfl (by (try simp only [List.map_toArray,List.map_cons,List.map_nil]);first|done|rfl|(simp only [List.length_drop,List.length_take];rfl)) ?_;(with_reducible refine (water_check.calls k a0_0 a0_1 _ _ l0_2 _ _ l1_0 _ _ l1_1 t297 t298 t299 t302 t305 t308 _ ?side1 ?side2 ?side3 ?side4 ?side5 ?side6 A3.out).mono ?_);(case side1 => exact Kd.C_up (Kd.C_below HR0_2.out HB.out));(case side2 => exact HC0_2.out);(case side3 => exact Kd.C_up (Kd.C_below HR1_0.out HB.out));(case side4 => exact HC1_0.out);(case side5 => exact Kd.C_up (Kd.C_below HR1_1.out HB.out));(case side6 => exact HC1_1.out);rintro e w9 ⟨v300,v303,v306,rfl,ho0,ho1,ho2,hb⟩;refine ⟨_,rfl,?_⟩;have HO301:=rlo ho0;have HO304:=rlo ho1;have HO307:=rlo ho2;replace BK295:=bkb BK295 hb;replace BK296:=bkb BK296 hb;replace HB:=Aside0.mk (below_step (hb_) hb))|((with_reducible refine gate_dst (N:=5) rfl ?_);refine box_ev (N:=5) (cs:=#[.int .i64 0,.int .i64 0,.slice none 0 0,.slice none 0 0,.slice none 0 0]) (t:=52) ?_;intro gb309 hg w10 hbox hb;have BK309:=Aside0.mk (hbox);have GW309 : Aside0 (w.heap.size ≤ gb309):=gsz hg;have GE309:=GW309;have NB295_309:=nbl BK295 hg;have NB309_295:=nbr BK295 hg;have NB296_309:=nbl BK296 hg;have NB309_296:=nbr BK296 hg;replace HO301:=rbw HO301 hb;replace HO304:=rbw HO304 hb;replace HO307:=rbw HO307 hb;replace BK295:=bkb BK295 hb;replace BK296:=bkb BK296 hb;replace HB:=Aside0.mk (below_step (hb_) hb);clear hb hbox hg;have hnb11:=NB309_295.out;have hnc11:=NB295_309.out;have hnb12:=NB309_296.out;have hnc12:=NB296_309.out;obtain ⟨hcz13_0,hcz13_1,hcz13_2,hcz13_3,hcz13_4,hfz13_0,hfz13_1,hfz13_2,hfz13_3,hfz13_4⟩:=cells5 BK309.out;obtain ⟨Ao14,co14,eo14⟩:=Kd.R_slice HO301.out;subst eo14;obtain ⟨Ao15,co15,eo15⟩:=Kd.R_slice HO304.out;subst eo15;obtain ⟨Ao16,co16,eo16⟩:=Kd.R_slice HO307.out;subst eo16))
 go_ret
 exact ⟨by first|rfl|(simp [errW_none,errW_some] <;> rfl)|(simp [*,errW_none,errW_some] <;> rfl),hb_⟩

/-! ### hinterlandref02_Is: function 33 -/
def hinterlandref02_Is.f (a0_0 : Int) (a0_1 : Int) (l0_2 : List Int) (a1 : Int) : Option (Bool) := if a1 ≥ 0 then (some (decide (a1 < (wrap64 (a0_0 * a0_1))))) else (some false)
set_option maxHeartbeats 8000000 in
set_option maxRecDepth 100000 in
theorem hinterlandref02_Is.calls (a0_0 : Int) (a0_1 : Int) (A0_2 : Option Addr) (c0_2 : Nat) (l0_2 : List Int) (a1 : Int) (r : Bool) (w : World) (hr0_2 : Kd.C (Kd.int .i64) w A0_2 l0_2.length l0_2) (hc0_2 : l0_2.length ≤ c0_2) (h : hinterlandref02_Is.f a0_0 a0_1 l0_2 a1 = some r) :
  Calls Try.prog 33 #[.agg #[.int .i64 a0_0,.int .i64 a0_1,.slice A0_2 l0_2.length c0_2],.int .i64 a1] w fun e w' => e = .returned (.bool r) ∧ Below w.heap.size w w':=by
 have hu24:=Try.underlying24
 have HR0_2:=Aside0.mk hr0_2
 have HC0_2:=Aside0.mk hc0_2
 clear hr0_2 hc0_2
 have HB:=Aside0.mk (Below.refl w.heap.size w)
 have H : (if a1 ≥ 0 then (some (decide (a1 < (wrap64 (a0_0 * a0_1))))) else (some false)) = some r:=h
 clear h
 by_cases c3 : a1 ≥ 0
 ·rw [if_pos c3] at H
  have c3b0 : decide (0 ≤ a1) = true:=decide_eq_true c3
  clear c3
  obtain rfl:=Option.some.inj H
  go_enter Try.func33,Try.ntmps33
  go_wp2_with (first|((with_reducible refine gate_dst (N:=2) rfl ?_);refine box_ev (N:=2) (cs:=#[.int .i64 a0_0,.int .i64 a0_1,.slice A0_2 l0_2.length c0_2]) (t:=24) ?_;intro gb310 hg w4 hbox hb;have BK310:=Aside0.mk (hbox);have GW310 : Aside0 (w.heap.size ≤ gb310):=gsz hg;have GE310:=GW310;replace HB:=Aside0.mk (below_step (hb_) hb);clear hb hbox hg;obtain ⟨hcz5_0,hcz5_1,hcz5_2,hfz5_0,hfz5_1,hfz5_2⟩:=cells3 BK310.out))
  go_ret
  exact ⟨by first|rfl|(simp [errW_none,errW_some] <;> rfl)|(simp [*,errW_none,errW_some] <;> rfl),hb_⟩
 ·rw [if_neg c3] at H
  have c3b0 : decide (0 ≤ a1) = false:=decide_eq_false c3
  clear c3
  obtain rfl:=Option.some.inj H
  go_enter Try.func33,Try.ntmps33
  go_wp2_with (first|((with_reducible refine gate_dst (N:=2) rfl ?_);refine box_ev (N:=2) (cs:=#[.int .i64 a0_0,.int .i64 a0_1,.slice A0_2 l0_2.length c0_2]) (t:=24) ?_;intro gb310 hg w6 hbox hb;have BK310:=Aside0.mk (hbox);have GW310 : Aside0 (w.heap.size ≤ gb310):=gsz hg;have GE310:=GW310;replace HB:=Aside0.mk (below_step (hb_) hb);clear hb hbox hg))
  go_ret
  exact ⟨by first|rfl|(simp [errW_none,errW_some] <;> rfl)|(simp [*,errW_none,errW_some] <;> rfl),hb_⟩

/-! ### hinterlandref02_Places: function 68 -/
def hinterlandref02_Places.f (a0_0 : Int) (a0_1 : Int) (l0_2 : List Int) (a1 : Int) : Option (S71) := if a0_0 = 0 then (none) else (some (⟨wrap64 ((wrap64 ((wrap64 (Int.tdiv a1 a0_0)) * (wrap64 (a0_0 + 1)))) + (Int.tmod a1 a0_0)), wrap64 ((wrap64 ((wrap64 ((wrap64 (Int.tdiv a1 a0_0)) * (wrap64 (a0_0 + 1)))) + (Int.tmod a1 a0_0))) + 1), wrap64 ((wrap64 ((wrap64 ((wrap64 ((wrap64 (Int.tdiv a1 a0_0)) * (wrap64 (a0_0 + 1)))) + (Int.tmod a1 a0_0))) + a0_0)) + 2), wrap64 ((wrap64 ((wrap64 ((wrap64 ((wrap64 (Int.tdiv a1 a0_0)) * (wrap64 (a0_0 + 1)))) + (Int.tmod a1 a0_0))) + a0_0)) + 1)⟩ : S71))
set_option maxHeartbeats 8000000 in
set_option maxRecDepth 100000 in
theorem hinterlandref02_Places.calls (a0_0 : Int) (a0_1 : Int) (A0_2 : Option Addr) (c0_2 : Nat) (l0_2 : List Int) (a1 : Int) (r : S71) (w : World) (hr0_2 : Kd.C (Kd.int .i64) w A0_2 l0_2.length l0_2) (hc0_2 : l0_2.length ≤ c0_2) (h : hinterlandref02_Places.f a0_0 a0_1 l0_2 a1 = some r) :
  Calls Try.prog 68 #[.agg #[.int .i64 a0_0,.int .i64 a0_1,.slice A0_2 l0_2.length c0_2],.int .i64 a1] w fun e w' => e = .returned (.agg #[.int .i64 r.f0,.int .i64 r.f1,.int .i64 r.f2,.int .i64 r.f3]) ∧ Below w.heap.size w w':=by
 have hu24:=Try.underlying24
 have hu71:=Try.underlying71
 have HR0_2:=Aside0.mk hr0_2
 have HC0_2:=Aside0.mk hc0_2
 clear hr0_2 hc0_2
 have HB:=Aside0.mk (Below.refl w.heap.size w)
 have H : (if a0_0 = 0 then (none) else (some (⟨wrap64 ((wrap64 ((wrap64 (Int.tdiv a1 a0_0)) * (wrap64 (a0_0 + 1)))) + (Int.tmod a1 a0_0)),wrap64 ((wrap64 ((wrap64 ((wrap64 (Int.tdiv a1 a0_0)) * (wrap64 (a0_0 + 1)))) + (Int.tmod a1 a0_0))) + 1),wrap64 ((wrap64 ((wrap64 ((wrap64 ((wrap64 (Int.tdiv a1 a0_0)) * (wrap64 (a0_0 + 1)))) + (Int.tmod a1 a0_0))) + a0_0)) + 2),wrap64 ((wrap64 ((wrap64 ((wrap64 ((wrap64 (Int.tdiv a1 a0_0)) * (wrap64 (a0_0 + 1)))) + (Int.tmod a1 a0_0))) + a0_0)) + 1)⟩ : S71))) = some r:=h
 clear h
 replace H:=ifn_ H;obtain ⟨c3,H⟩:=H
 have c3b0 : (a0_0 == 0) = false:=beq_eq_false_iff_ne.mpr c3
 have c3b1 : (a0_0 != 0) = true:=bne_iff_ne.mpr c3
 obtain rfl:=Option.some.inj H
 go_enter Try.func68,Try.ntmps68
 go_wp2_with (first|((with_reducible refine gate_dst (N:=2) rfl ?_);refine box_ev (N:=2) (cs:=#[.int .i64 a0_0,.int .i64 a0_1,.slice A0_2 l0_2.length c0_2]) (t:=24) ?_;intro gb311 hg w4 hbox hb;have BK311:=Aside0.mk (hbox);have GW311 : Aside0 (w.heap.size ≤ gb311):=gsz hg;have GE311:=GW311;replace HB:=Aside0.mk (below_step (hb_) hb);clear hb hbox hg)|((with_reducible refine gate_dst (N:=4) rfl ?_);refine box_ev (N:=4) (cs:=#[.int .i64 0,.int .i64 0,.int .i64 0,.int .i64 0]) (t:=71) ?_;intro gb312 hg w5 hbox hb;have BK312:=Aside0.mk (hbox);have GW312 : Aside0 (w.heap.size ≤ gb312):=gsz hg;have GE312:=GW312;have NB311_312:=nbl BK311 hg;have NB312_311:=nbr BK311 hg;replace BK311:=bkb BK311 hb;replace HB:=Aside0.mk (below_step (hb_) hb);clear hb hbox hg;have hnb6:=NB311_312.out;have hnc6:=NB312_311.out;obtain ⟨hcz7_0,hcz7_1,hcz7_2,hfz7_0,hfz7_1,hfz7_2⟩:=cells3 BK311.out;obtain ⟨hcz8_0,hcz8_1,hcz8_2,hcz8_3,hfz8_0,hfz8_1,hfz8_2,hfz8_3⟩:=cells4 BK312.out))
 go_quiet (fail)
 go_wp2
 refine bodyPost_ret (results_cell_row rfl _ _ gb312 71 #[.int .i64 (wrap64 ((wrap64 ((wrap64 (Int.tdiv a1 a0_0)) * (wrap64 (a0_0 + 1)))) + (Int.tmod a1 a0_0))),.int .i64 (wrap64 ((wrap64 ((wrap64 ((wrap64 (Int.tdiv a1 a0_0)) * (wrap64 (a0_0 + 1)))) + (Int.tmod a1 a0_0))) + 1)),.int .i64 (wrap64 ((wrap64 ((wrap64 ((wrap64 ((wrap64 (Int.tdiv a1 a0_0)) * (wrap64 (a0_0 + 1)))) + (Int.tmod a1 a0_0))) + a0_0)) + 2)),.int .i64 (wrap64 ((wrap64 ((wrap64 ((wrap64 ((wrap64 (Int.tdiv a1 a0_0)) * (wrap64 (a0_0 + 1)))) + (Int.tmod a1 a0_0))) + a0_0)) + 1))] (0,0) _ rfl (by (with_reducible repeat (first|refine blk_drewN ?_ _|refine blk_drew ?_|refine blk_alloc ?_ _));exact blk_puts4 (blk_up BK312.out)) Try.underlying71 rfl (by kernel_rfl)) rfl ?_
 exact ⟨by first|rfl|(simp [errW_none,errW_some] <;> rfl)|(simp [*,errW_none,errW_some] <;> rfl),hb_⟩

/-! ### hinterlandref02_Sea: function 51 -/
def hinterlandref02_Sea.l0 : Nat → S71 → Int → Int → Int → List Int → Option (Bool)
 | 0,_,_,_,_,_ => none
 | k + 1,x9,x10,x314000,x314001,x314002 => if x10 < 4 then (if 0 ≤ x10 then (if 0 ≤ (ix71 x9 x10) then (if (ix71 x9 x10) < (x314002.length : Int) then (if (rd x314002 (ix71 x9 x10)) > 2 then (some false) else (hinterlandref02_Sea.l0 k x9 (wrap64 (x10 + 1)) x314000 x314001 x314002)) else (none)) else (none)) else (none)) else (some true)
def hinterlandref02_Sea.f (k : Nat) (a0_0 : Int) (a0_1 : Int) (l0_2 : List Int) (a1 : Int) : Option (Bool) := (hinterlandref02_Places.f a0_0 a0_1 l0_2 a1).bind fun t314 => (hinterlandref02_Sea.l0 k t314 0 a0_0 a0_1 l0_2)
theorem hinterlandref02_Sea.mono_l : ∀ k, (∀ y0 y1 y2 y3 y4, LeO (hinterlandref02_Sea.l0 k y0 y1 y2 y3 y4) (hinterlandref02_Sea.l0 (k + 1) y0 y1 y2 y3 y4))
 | 0 => fun _ _ _ _ _ r h => by simp [hinterlandref02_Sea.l0] at h
 | k + 1 => by
  have ih0:=hinterlandref02_Sea.mono_l k
  ·intro y0 y1 y2 y3 y4
   unfold hinterlandref02_Sea.l0
   repeat' first
   | (with_reducible exact ih0 _ _ _ _ _)
   | (with_reducible exact LeO.refl _)
   | (with_reducible exact LeO.none _)
   | (with_reducible refine LeO.ite ?_ ?_)
   | (with_reducible refine LeO.bind ?_ (fun _ => ?_))
   | exact ih0 _ _ _ _ _
   | exact LeO.none _
   | refine LeO.ite ?_ ?_
   | refine LeO.bind ?_ (fun _ => ?_)
theorem hinterlandref02_Sea.mono : ∀ a0 a1 a2 a3 k, LeO (hinterlandref02_Sea.f k a0 a1 a2 a3) (hinterlandref02_Sea.f (k + 1) a0 a1 a2 a3) := by
 intro a0 a1 a2 a3 k
 have ih0:=hinterlandref02_Sea.mono_l k
 unfold hinterlandref02_Sea.f
 repeat' first
   | (with_reducible exact ih0 _ _ _ _ _)
   | (with_reducible exact LeO.refl _)
   | (with_reducible exact LeO.none _)
   | (with_reducible refine LeO.ite ?_ ?_)
   | (with_reducible refine LeO.bind ?_ (fun _ => ?_))
   | exact ih0 _ _ _ _ _
   | exact LeO.none _
   | refine LeO.ite ?_ ?_
   | refine LeO.bind ?_ (fun _ => ?_)
set_option maxHeartbeats 8000000 in
set_option maxRecDepth 100000 in
theorem hinterlandref02_Sea.calls (k : Nat) (a0_0 : Int) (a0_1 : Int) (A0_2 : Option Addr) (c0_2 : Nat) (l0_2 : List Int) (a1 : Int) (r : Bool) (w : World) (hr0_2 : Kd.C (Kd.int .i64) w A0_2 l0_2.length l0_2) (hc0_2 : l0_2.length ≤ c0_2) (h : hinterlandref02_Sea.f k a0_0 a0_1 l0_2 a1 = some r) :
  Calls Try.prog 51 #[.agg #[.int .i64 a0_0,.int .i64 a0_1,.slice A0_2 l0_2.length c0_2],.int .i64 a1] w fun e w' => e = .returned (.bool r) ∧ Below w.heap.size w w':=by
 have hu24:=Try.underlying24
 have hu71:=Try.underlying71
 have HR0_2:=Aside0.mk hr0_2
 have HC0_2:=Aside0.mk hc0_2
 clear hr0_2 hc0_2
 have HB:=Aside0.mk (Below.refl w.heap.size w)
 have H : ((hinterlandref02_Places.f a0_0 a0_1 l0_2 a1).bind fun t314 => (hinterlandref02_Sea.l0 k t314 0 a0_0 a0_1 l0_2)) = some r:=h
 clear h
 replace H:=Option.bind_eq_some_iff.mp H
 obtain ⟨t314,A30,H⟩:=H
 replace H : (hinterlandref02_Sea.l0 k t314 0 a0_0 a0_1 l0_2) = some r:=H
 have A3:=Aside0.mk A30
 clear A30
 have H':=Aside0.mk H
 clear H
 go_enter Try.func51,Try.ntmps51
 go_wp2_with (first|((with_reducible refine gate_dst (N:=2) rfl ?_);refine box_ev (N:=2) (cs:=#[.int .i64 a0_0,.int .i64 a0_1,.slice A0_2 l0_2.length c0_2]) (t:=24) ?_;intro gb313 hg w4 hbox hb;have BK313:=Aside0.mk (hbox);have GW313 : Aside0 (w.heap.size ≤ gb313):=gsz hg;have GE313:=GW313;replace HB:=Aside0.mk (below_step (hb_) hb);clear hb hbox hg;obtain ⟨hcz5_0,hcz5_1,hcz5_2,hfz5_0,hfz5_1,hfz5_2⟩:=cells3 BK313.out)|((with_reducible refine gate_callee (f:=68) rfl ?_);refine goesL_ (some 9) rfl rfl Try.func68 (by kernel_rfl) rfl #[.agg #[.int .i64 a0_0,.int .i64 a0_1,.slice A0_2 l0_2.length c0_2],.int .i64 a1] rfl (by (try simp only [List.map_toArray,List.map_cons,List.map_nil]);first|done|rfl|(simp only [List.length_drop,List.length_take];rfl)) ?_;(with_reducible refine (hinterlandref02_Places.calls a0_0 a0_1 _ _ l0_2 a1 t314 _ ?side1 ?side2 A3.out).mono ?_);(case side1 => exact Kd.C_up (Kd.C_below HR0_2.out HB.out));(case side2 => exact HC0_2.out);rintro e w6 ⟨rfl,hb⟩;refine ⟨_,rfl,?_⟩;replace BK313:=bkb BK313 hb;replace HB:=Aside0.mk (below_step (hb_) hb)))
 go_loopg [10] k (fun kq v10 w' => ∃ (x10_1 : Int),v10 = .int .i64 x10_1 ∧ Aside0 (hinterlandref02_Sea.l0 kq t314 x10_1 a0_0 a0_1 l0_2 = some r) ∧ Aside0 (kq ≤ k) ∧ Aside0 (w'.heap[gb313]? = some (.cells #[.int .i64 a0_0,.int .i64 a0_1,(.slice A0_2 l0_2.length c0_2)] 24 (0,0))) ∧ Aside0 (Below w.heap.size w w'))
 case atStart => exact ⟨(0),(by first|rfl|(simp;done)|(simp [*];done)),H',⟨Nat.le_refl _⟩,⟨blk_up BK313.out⟩,⟨hb_⟩⟩
 case round =>
  clear H'
  obtain ⟨x10_1,rfl,HA,HK1,BK313,HB⟩:=hrel
  cases gk with
  | zero => exact absurd HA.out (by simp [hinterlandref02_Sea.l0])
  | succ k1 =>
   have H:=HA.out
   clear HA
   simp only [hinterlandref02_Sea.l0] at H
   by_cases c7 : x10_1 < 4
   rotate_left
   ·rw [if_neg c7] at H
    have c7b0 : decide (x10_1 < 4) = false:=decide_eq_false c7
    clear c7
    obtain rfl:=Option.some.inj H
    go_wp2
    go_ret
    exact ⟨by first|rfl|(simp [errW_none,errW_some] <;> rfl)|(simp [*,errW_none,errW_some] <;> rfl),hb_⟩
   rw [if_pos c7] at H
   have c7b0 : decide (x10_1 < 4) = true:=decide_eq_true c7
   clear c7
   replace H:=ifp_ H;obtain ⟨c8,H⟩:=H
   have c8b0 : decide (0 ≤ x10_1) = true:=decide_eq_true c8
   clear c8
   have hix9:=fun (W_ : World) => (ix71_run t314.f0 t314.f1 t314.f2 t314.f3 x10_1 (of_decide_eq_true (by first|(with_reducible assumption)|assumption)) (of_decide_eq_true (by first|(with_reducible assumption)|assumption)) W_ : (Instr.index 71 (.agg #[.int .i64 t314.f0,.int .i64 t314.f1,.int .i64 t314.f2,.int .i64 t314.f3]) (.int .i64 x10_1)).run Try.prog W_ = .ok (.int .i64 (ix71 t314 x10_1)) W_)
   replace H:=ifp_ H;obtain ⟨c10,H⟩:=H
   have c10b0 : decide (0 ≤ (ix71 t314 x10_1)) = true:=decide_eq_true c10
   clear c10
   replace H:=ifp_ H;obtain ⟨c11,H⟩:=H
   have c11b0 : decide ((ix71 t314 x10_1) < (l0_2.length : Int)) = true:=decide_eq_true c11
   clear c11
   by_cases c12 : (rd l0_2 (ix71 t314 x10_1)) > 2
   ·rw [if_pos c12] at H
    have c12b0 : decide (2 < (rd l0_2 (ix71 t314 x10_1))) = true:=decide_eq_true c12
    clear c12
    obtain rfl:=Option.some.inj H
    obtain ⟨hcz13_0,hcz13_1,hcz13_2,hfz13_0,hfz13_1,hfz13_2⟩:=cells3 BK313.out
    have p315 : 0 ≤ ((ix71 t314 x10_1) : Int):=of_decide_eq_true (by first|(with_reducible assumption)|assumption)
    have q315 : (ix71 t314 x10_1) < (l0_2.length : Int):=of_decide_eq_true (by first|(with_reducible assumption)|assumption)
    obtain ⟨ad315,e315,hx315_0⟩:=Kd.at_int HR0_2.out (ix71 t314 x10_1) p315 q315
    cases e315
    replace hx315_0:=(HB.out.cell (World.block_lt_of_cell? w _ hx315_0)).trans hx315_0
    replace p315:=eq_true p315
    replace q315:=eq_true q315
    go_wp2
    go_ret
    exact ⟨by first|rfl|(simp [errW_none,errW_some] <;> rfl)|(simp [*,errW_none,errW_some] <;> rfl),hb_⟩
   ·rw [if_neg c12] at H
    have c12b0 : decide (2 < (rd l0_2 (ix71 t314 x10_1))) = false:=decide_eq_false c12
    clear c12
    have H':=Aside0.mk H
    clear H
    obtain ⟨hcz14_0,hcz14_1,hcz14_2,hfz14_0,hfz14_1,hfz14_2⟩:=cells3 BK313.out
    have p315 : 0 ≤ ((ix71 t314 x10_1) : Int):=of_decide_eq_true (by first|(with_reducible assumption)|assumption)
    have q315 : (ix71 t314 x10_1) < (l0_2.length : Int):=of_decide_eq_true (by first|(with_reducible assumption)|assumption)
    obtain ⟨ad315,e315,hx315_0⟩:=Kd.at_int HR0_2.out (ix71 t314 x10_1) p315 q315
    cases e315
    replace hx315_0:=(HB.out.cell (World.block_lt_of_cell? w _ hx315_0)).trans hx315_0
    replace p315:=eq_true p315
    replace q315:=eq_true q315
    go_wp2
    go_roundg k1
    case measure => have:=HK1.out;omega
    case rel => exact ⟨(wrap64 (x10_1 + 1)),(by first|rfl|(simp;done)|(simp [*];done)),H',⟨by have:=HK1.out;omega⟩,⟨blk_up BK313.out⟩,⟨hb_⟩⟩

/-! ### hinterlandref06_Wet: function 47 -/
def hinterlandref06_Wet.f (k : Nat) (a0_0 : Int) (a0_1 : Int) (l0_2 : List Int) (l1 : List Int) (a2 : Int) : Option (Bool) := if 0 ≤ a2 then (if a2 < (l1.length : Int) then (if (rd l1 a2) = 0 then ((hinterlandref02_Sea.f k a0_0 a0_1 l0_2 a2).bind fun t318 => (some t318)) else (if (rd l1 a2) = 1 then ((hinterlandref02_Sea.f k a0_0 a0_1 l0_2 a2).bind fun t319 => (if t319 = true then (some false) else (some true))) else (if (rd l1 a2) = 2 then ((hinterlandref02_Sea.f k a0_0 a0_1 l0_2 a2).bind fun t320 => (if t320 = true then (some false) else (some true))) else (some true)))) else (none)) else (none)
theorem hinterlandref06_Wet.mono : ∀ a0 a1 a2 a3 a4 k, LeO (hinterlandref06_Wet.f k a0 a1 a2 a3 a4) (hinterlandref06_Wet.f (k + 1) a0 a1 a2 a3 a4) := by
 intro a0 a1 a2 a3 a4 k
 unfold hinterlandref06_Wet.f
 repeat' first
   | (with_reducible exact hinterlandref02_Sea.mono _ _ _ _ _)
   | (with_reducible exact LeO.refl _)
   | (with_reducible exact LeO.none _)
   | (with_reducible refine LeO.ite ?_ ?_)
   | (with_reducible refine LeO.bind ?_ (fun _ => ?_))
   | exact hinterlandref02_Sea.mono _ _ _ _ _
   | exact LeO.none _
   | refine LeO.ite ?_ ?_
   | refine LeO.bind ?_ (fun _ => ?_)
set_option maxHeartbeats 8000000 in
set_option maxRecDepth 100000 in
theorem hinterlandref06_Wet.calls (k : Nat) (a0_0 : Int) (a0_1 : Int) (A0_2 : Option Addr) (c0_2 : Nat) (l0_2 : List Int) (A1 : Option Addr) (c1 : Nat) (l1 : List Int) (a2 : Int) (r : Bool) (w : World) (hr0_2 : Kd.C (Kd.int .i64) w A0_2 l0_2.length l0_2) (hc0_2 : l0_2.length ≤ c0_2) (hr1 : Kd.C (Kd.int .i64) w A1 l1.length l1) (hc1 : l1.length ≤ c1) (h : hinterlandref06_Wet.f k a0_0 a0_1 l0_2 l1 a2 = some r) :
  Calls Try.prog 47 #[.agg #[.int .i64 a0_0,.int .i64 a0_1,.slice A0_2 l0_2.length c0_2],.slice A1 l1.length c1,.int .i64 a2] w fun e w' => e = .returned (.bool r) ∧ Below w.heap.size w w':=by
 have hu24:=Try.underlying24
 have HR0_2:=Aside0.mk hr0_2
 have HC0_2:=Aside0.mk hc0_2
 clear hr0_2 hc0_2
 have HR1:=Aside0.mk hr1
 have HC1:=Aside0.mk hc1
 clear hr1 hc1
 have HB:=Aside0.mk (Below.refl w.heap.size w)
 have H : (if 0 ≤ a2 then (if a2 < (l1.length : Int) then (if (rd l1 a2) = 0 then ((hinterlandref02_Sea.f k a0_0 a0_1 l0_2 a2).bind fun t318 => (some t318)) else (if (rd l1 a2) = 1 then ((hinterlandref02_Sea.f k a0_0 a0_1 l0_2 a2).bind fun t319 => (if t319 = true then (some false) else (some true))) else (if (rd l1 a2) = 2 then ((hinterlandref02_Sea.f k a0_0 a0_1 l0_2 a2).bind fun t320 => (if t320 = true then (some false) else (some true))) else (some true)))) else (none)) else (none)) = some r:=h
 clear h
 replace H:=ifp_ H;obtain ⟨c4,H⟩:=H
 have c4b0 : decide (0 ≤ a2) = true:=decide_eq_true c4
 clear c4
 replace H:=ifp_ H;obtain ⟨c5,H⟩:=H
 have c5b0 : decide (a2 < (l1.length : Int)) = true:=decide_eq_true c5
 clear c5
 by_cases c6 : (rd l1 a2) = 0
 ·rw [if_pos c6] at H
  have c6b0 : ((rd l1 a2) == 0) = true:=beq_iff_eq.mpr c6
  have c6b1 : ((rd l1 a2) != 0) = false:=bne_eq_false_iff_eq.mpr c6
  clear c6
  replace H:=Option.bind_eq_some_iff.mp H
  obtain ⟨t318,A70,H⟩:=H
  replace H : (some t318) = some r:=H
  have A7:=Aside0.mk A70
  clear A70
  obtain rfl:=Option.some.inj H
  go_enter Try.func47,Try.ntmps47
  go_wp2_with (first|((with_reducible refine gate_dst (N:=3) rfl ?_);refine box_ev (N:=3) (cs:=#[.int .i64 a0_0,.int .i64 a0_1,.slice A0_2 l0_2.length c0_2]) (t:=24) ?_;intro gb316 hg w8 hbox hb;have BK316:=Aside0.mk (hbox);have GW316 : Aside0 (w.heap.size ≤ gb316):=gsz hg;have GE316:=GW316;replace HB:=Aside0.mk (below_step (hb_) hb);clear hb hbox hg;have p317 : 0 ≤ (a2 : Int):=of_decide_eq_true (by first|(with_reducible assumption)|assumption);have q317 : a2 < (l1.length : Int):=of_decide_eq_true (by first|(with_reducible assumption)|assumption);obtain ⟨ad317,e317,hx317_0⟩:=Kd.at_int HR1.out a2 p317 q317;cases e317;replace hx317_0:=(HB.out.cell (World.block_lt_of_cell? w _ hx317_0)).trans hx317_0;replace p317:=eq_true p317;replace q317:=eq_true q317;obtain ⟨hcz9_0,hcz9_1,hcz9_2,hfz9_0,hfz9_1,hfz9_2⟩:=cells3 BK316.out)|(go_at_call 51;(with_reducible refine (hinterlandref02_Sea.calls k a0_0 a0_1 _ _ l0_2 a2 t318 _ ?side1 ?side2 A7.out).mono ?_);(case side1 => exact Kd.C_up (Kd.C_below HR0_2.out HB.out));(case side2 => exact HC0_2.out);rintro e w10 ⟨rfl,hb⟩;replace BK316:=bkb BK316 hb;replace HB:=Aside0.mk (below_step (hb_) hb)))
  go_ret
  exact ⟨by first|rfl|(simp [errW_none,errW_some] <;> rfl)|(simp [*,errW_none,errW_some] <;> rfl),hb_⟩
 rw [if_neg c6] at H
 have c6b0 : ((rd l1 a2) == 0) = false:=beq_eq_false_iff_ne.mpr c6
 have c6b1 : ((rd l1 a2) != 0) = true:=bne_iff_ne.mpr c6
 by_cases c11 : (rd l1 a2) = 1
 ·rw [if_pos c11] at H
  have c11b0 : ((rd l1 a2) == 1) = true:=beq_iff_eq.mpr c11
  have c11b1 : ((rd l1 a2) != 1) = false:=bne_eq_false_iff_eq.mpr c11
  clear c11
  replace H:=Option.bind_eq_some_iff.mp H
  obtain ⟨t319,A120,H⟩:=H
  replace H : (if t319 = true then (some false) else (some true)) = some r:=H
  have A12:=Aside0.mk A120
  clear A120
  by_cases c13 : t319 = true
  ·subst c13
   have H1 : (some false) = some r:=by rw [if_pos rfl] at H;exact H
   clear H
   have H:=H1
   clear H1
   obtain rfl:=Option.some.inj H
   go_enter Try.func47,Try.ntmps47
   go_wp2_with (first|((with_reducible refine gate_dst (N:=3) rfl ?_);refine box_ev (N:=3) (cs:=#[.int .i64 a0_0,.int .i64 a0_1,.slice A0_2 l0_2.length c0_2]) (t:=24) ?_;intro gb316 hg w14 hbox hb;have BK316:=Aside0.mk (hbox);have GW316 : Aside0 (w.heap.size ≤ gb316):=gsz hg;have GE316:=GW316;replace HB:=Aside0.mk (below_step (hb_) hb);clear hb hbox hg;have p317 : 0 ≤ (a2 : Int):=of_decide_eq_true (by first|(with_reducible assumption)|assumption);have q317 : a2 < (l1.length : Int):=of_decide_eq_true (by first|(with_reducible assumption)|assumption);obtain ⟨ad317,e317,hx317_0⟩:=Kd.at_int HR1.out a2 p317 q317;cases e317;replace hx317_0:=(HB.out.cell (World.block_lt_of_cell? w _ hx317_0)).trans hx317_0;replace p317:=eq_true p317;replace q317:=eq_true q317;obtain ⟨hcz15_0,hcz15_1,hcz15_2,hfz15_0,hfz15_1,hfz15_2⟩:=cells3 BK316.out)|(go_at_call 51;(with_reducible refine (hinterlandref02_Sea.calls k a0_0 a0_1 _ _ l0_2 a2 true _ ?side1 ?side2 A12.out).mono ?_);(case side1 => exact Kd.C_up (Kd.C_below HR0_2.out HB.out));(case side2 => exact HC0_2.out);rintro e w16 ⟨rfl,hb⟩;replace BK316:=bkb BK316 hb;replace HB:=Aside0.mk (below_step (hb_) hb)))
   go_ret
   exact ⟨by first|rfl|(simp [errW_none,errW_some] <;> rfl)|(simp [*,errW_none,errW_some] <;> rfl),hb_⟩
  ·replace c13:=Bool.eq_false_iff.mpr c13
   subst c13
   have H1 : (some true) = some r:=by rw [if_neg (show ¬ (false = true) by decide)] at H;exact H
   clear H
   have H:=H1
   clear H1
   obtain rfl:=Option.some.inj H
   go_enter Try.func47,Try.ntmps47
   go_wp2_with (first|((with_reducible refine gate_dst (N:=3) rfl ?_);refine box_ev (N:=3) (cs:=#[.int .i64 a0_0,.int .i64 a0_1,.slice A0_2 l0_2.length c0_2]) (t:=24) ?_;intro gb316 hg w17 hbox hb;have BK316:=Aside0.mk (hbox);have GW316 : Aside0 (w.heap.size ≤ gb316):=gsz hg;have GE316:=GW316;replace HB:=Aside0.mk (below_step (hb_) hb);clear hb hbox hg;have p317 : 0 ≤ (a2 : Int):=of_decide_eq_true (by first|(with_reducible assumption)|assumption);have q317 : a2 < (l1.length : Int):=of_decide_eq_true (by first|(with_reducible assumption)|assumption);obtain ⟨ad317,e317,hx317_0⟩:=Kd.at_int HR1.out a2 p317 q317;cases e317;replace hx317_0:=(HB.out.cell (World.block_lt_of_cell? w _ hx317_0)).trans hx317_0;replace p317:=eq_true p317;replace q317:=eq_true q317;obtain ⟨hcz18_0,hcz18_1,hcz18_2,hfz18_0,hfz18_1,hfz18_2⟩:=cells3 BK316.out)|(go_at_call 51;(with_reducible refine (hinterlandref02_Sea.calls k a0_0 a0_1 _ _ l0_2 a2 false _ ?side1 ?side2 A12.out).mono ?_);(case side1 => exact Kd.C_up (Kd.C_below HR0_2.out HB.out));(case side2 => exact HC0_2.out);rintro e w19 ⟨rfl,hb⟩;replace BK316:=bkb BK316 hb;replace HB:=Aside0.mk (below_step (hb_) hb)))
   go_ret
   exact ⟨by first|rfl|(simp [errW_none,errW_some] <;> rfl)|(simp [*,errW_none,errW_some] <;> rfl),hb_⟩
 rw [if_neg c11] at H
 have c11b0 : ((rd l1 a2) == 1) = false:=beq_eq_false_iff_ne.mpr c11
 have c11b1 : ((rd l1 a2) != 1) = true:=bne_iff_ne.mpr c11
 by_cases c20 : (rd l1 a2) = 2
 ·rw [if_pos c20] at H
  have c20b0 : ((rd l1 a2) == 2) = true:=beq_iff_eq.mpr c20
  have c20b1 : ((rd l1 a2) != 2) = false:=bne_eq_false_iff_eq.mpr c20
  clear c20
  replace H:=Option.bind_eq_some_iff.mp H
  obtain ⟨t320,A210,H⟩:=H
  replace H : (if t320 = true then (some false) else (some true)) = some r:=H
  have A21:=Aside0.mk A210
  clear A210
  by_cases c22 : t320 = true
  ·subst c22
   have H1 : (some false) = some r:=by rw [if_pos rfl] at H;exact H
   clear H
   have H:=H1
   clear H1
   obtain rfl:=Option.some.inj H
   go_enter Try.func47,Try.ntmps47
   go_wp2_with (first|((with_reducible refine gate_dst (N:=3) rfl ?_);refine box_ev (N:=3) (cs:=#[.int .i64 a0_0,.int .i64 a0_1,.slice A0_2 l0_2.length c0_2]) (t:=24) ?_;intro gb316 hg w23 hbox hb;have BK316:=Aside0.mk (hbox);have GW316 : Aside0 (w.heap.size ≤ gb316):=gsz hg;have GE316:=GW316;replace HB:=Aside0.mk (below_step (hb_) hb);clear hb hbox hg;have p317 : 0 ≤ (a2 : Int):=of_decide_eq_true (by first|(with_reducible assumption)|assumption);have q317 : a2 < (l1.length : Int):=of_decide_eq_true (by first|(with_reducible assumption)|assumption);obtain ⟨ad317,e317,hx317_0⟩:=Kd.at_int HR1.out a2 p317 q317;cases e317;replace hx317_0:=(HB.out.cell (World.block_lt_of_cell? w _ hx317_0)).trans hx317_0;replace p317:=eq_true p317;replace q317:=eq_true q317;obtain ⟨hcz24_0,hcz24_1,hcz24_2,hfz24_0,hfz24_1,hfz24_2⟩:=cells3 BK316.out)|(go_at_call 51;(with_reducible refine (hinterlandref02_Sea.calls k a0_0 a0_1 _ _ l0_2 a2 true _ ?side1 ?side2 A21.out).mono ?_);(case side1 => exact Kd.C_up (Kd.C_below HR0_2.out HB.out));(case side2 => exact HC0_2.out);rintro e w25 ⟨rfl,hb⟩;replace BK316:=bkb BK316 hb;replace HB:=Aside0.mk (below_step (hb_) hb)))
   go_ret
   exact ⟨by first|rfl|(simp [errW_none,errW_some] <;> rfl)|(simp [*,errW_none,errW_some] <;> rfl),hb_⟩
  ·replace c22:=Bool.eq_false_iff.mpr c22
   subst c22
   have H1 : (some true) = some r:=by rw [if_neg (show ¬ (false = true) by decide)] at H;exact H
   clear H
   have H:=H1
   clear H1
   obtain rfl:=Option.some.inj H
   go_enter Try.func47,Try.ntmps47
   go_wp2_with (first|((with_reducible refine gate_dst (N:=3) rfl ?_);refine box_ev (N:=3) (cs:=#[.int .i64 a0_0,.int .i64 a0_1,.slice A0_2 l0_2.length c0_2]) (t:=24) ?_;intro gb316 hg w26 hbox hb;have BK316:=Aside0.mk (hbox);have GW316 : Aside0 (w.heap.size ≤ gb316):=gsz hg;have GE316:=GW316;replace HB:=Aside0.mk (below_step (hb_) hb);clear hb hbox hg;have p317 : 0 ≤ (a2 : Int):=of_decide_eq_true (by first|(with_reducible assumption)|assumption);have q317 : a2 < (l1.length : Int):=of_decide_eq_true (by first|(with_reducible assumption)|assumption);obtain ⟨ad317,e317,hx317_0⟩:=Kd.at_int HR1.out a2 p317 q317;cases e317;replace hx317_0:=(HB.out.cell (World.block_lt_of_cell? w _ hx317_0)).trans hx317_0;replace p317:=eq_true p317;replace q317:=eq_true q317;obtain ⟨hcz27_0,hcz27_1,hcz27_2,hfz27_0,hfz27_1,hfz27_2⟩:=cells3 BK316.out)|(go_at_call 51;(with_reducible refine (hinterlandref02_Sea.calls k a0_0 a0_1 _ _ l0_2 a2 false _ ?side1 ?side2 A21.out).mono ?_);(case side1 => exact Kd.C_up (Kd.C_below HR0_2.out HB.out));(case side2 => exact HC0_2.out);rintro e w28 ⟨rfl,hb⟩;replace BK316:=bkb BK316 hb;replace HB:=Aside0.mk (below_step (hb_) hb)))
   go_ret
   exact ⟨by first|rfl|(simp [errW_none,errW_some] <;> rfl)|(simp [*,errW_none,errW_some] <;> rfl),hb_⟩
 ·rw [if_neg c20] at H
  have c20b0 : ((rd l1 a2) == 2) = false:=beq_eq_false_iff_ne.mpr c20
  have c20b1 : ((rd l1 a2) != 2) = true:=bne_iff_ne.mpr c20
  obtain rfl:=Option.some.inj H
  go_enter Try.func47,Try.ntmps47
  go_wp2_with (first|((with_reducible refine gate_dst (N:=3) rfl ?_);refine box_ev (N:=3) (cs:=#[.int .i64 a0_0,.int .i64 a0_1,.slice A0_2 l0_2.length c0_2]) (t:=24) ?_;intro gb316 hg w29 hbox hb;have BK316:=Aside0.mk (hbox);have GW316 : Aside0 (w.heap.size ≤ gb316):=gsz hg;have GE316:=GW316;replace HB:=Aside0.mk (below_step (hb_) hb);clear hb hbox hg;have p317 : 0 ≤ (a2 : Int):=of_decide_eq_true (by first|(with_reducible assumption)|assumption);have q317 : a2 < (l1.length : Int):=of_decide_eq_true (by first|(with_reducible assumption)|assumption);obtain ⟨ad317,e317,hx317_0⟩:=Kd.at_int HR1.out a2 p317 q317;cases e317;replace hx317_0:=(HB.out.cell (World.block_lt_of_cell? w _ hx317_0)).trans hx317_0;replace p317:=eq_true p317;replace q317:=eq_true q317))
  go_ret
  exact ⟨by first|rfl|(simp [errW_none,errW_some] <;> rfl)|(simp [*,errW_none,errW_some] <;> rfl),hb_⟩

/-! ### hinterlandref02_side: function 66 -/
def hinterlandref02_side.f (a0 : Int) : Option (Bool) := if a0 ≥ 4 then (some (decide (a0 ≤ 32))) else (some false)
set_option maxHeartbeats 8000000 in
set_option maxRecDepth 100000 in
theorem hinterlandref02_side.calls (a0 : Int) (r : Bool) (w : World) (h : hinterlandref02_side.f a0 = some r) :
  Calls Try.prog 66 #[.int .i64 a0] w fun e w' => e = .returned (.bool r) ∧ Drawn0 w w':=by
 have H : (if a0 ≥ 4 then (some (decide (a0 ≤ 32))) else (some false)) = some r:=h
 clear h
 by_cases c2 : a0 ≥ 4
 ·rw [if_pos c2] at H
  have c2b0 : decide (4 ≤ a0) = true:=decide_eq_true c2
  clear c2
  obtain rfl:=Option.some.inj H
  go_enter Try.func66,Try.ntmps66
  go_wp2
  go_ret
  exact ⟨by first|rfl|(simp;done)|(simp [*];done),by repeat (first|exact Drawn0.refl _|apply Drawn0.step)⟩
 ·rw [if_neg c2] at H
  have c2b0 : decide (4 ≤ a0) = false:=decide_eq_false c2
  clear c2
  obtain rfl:=Option.some.inj H
  go_enter Try.func66,Try.ntmps66
  go_wp2
  go_ret
  exact ⟨by first|rfl|(simp;done)|(simp [*];done),by repeat (first|exact Drawn0.refl _|apply Drawn0.step)⟩

/-! ### hinterlandref02_Apart: function 67 -/
def hinterlandref02_Apart.f (a0 : Int) (a1 : Int) : Option (Int) := if a0 < a1 then (some (wrap64 (a1 - a0))) else (some (wrap64 (a0 - a1)))
set_option maxHeartbeats 8000000 in
set_option maxRecDepth 100000 in
theorem hinterlandref02_Apart.calls (a0 : Int) (a1 : Int) (r : Int) (w : World) (h : hinterlandref02_Apart.f a0 a1 = some r) :
  Calls Try.prog 67 #[.int .i64 a0,.int .i64 a1] w fun e w' => e = .returned (.int .i64 r) ∧ Drawn0 w w':=by
 have H : (if a0 < a1 then (some (wrap64 (a1 - a0))) else (some (wrap64 (a0 - a1)))) = some r:=h
 clear h
 by_cases c3 : a0 < a1
 ·rw [if_pos c3] at H
  have c3b0 : decide (a0 < a1) = true:=decide_eq_true c3
  clear c3
  obtain rfl:=Option.some.inj H
  go_enter Try.func67,Try.ntmps67
  go_wp2
  go_ret
  exact ⟨by first|rfl|(simp;done)|(simp [*];done),by repeat (first|exact Drawn0.refl _|apply Drawn0.step)⟩
 ·rw [if_neg c3] at H
  have c3b0 : decide (a0 < a1) = false:=decide_eq_false c3
  clear c3
  obtain rfl:=Option.some.inj H
  go_enter Try.func67,Try.ntmps67
  go_wp2
  go_ret
  exact ⟨by first|rfl|(simp;done)|(simp [*];done),by repeat (first|exact Drawn0.refl _|apply Drawn0.step)⟩

end Go.Proofs.Ytiencnnkphipoaa.P

/- Functions of this seat as plain Lean functions, with proofs that the Go code comes to just their answers, or what stands between them and a law's statement; no conditions. (Laid by a program of this session, out of the kit's print.) -/
import Derived.Test.YthjmdpekcleihaaPx0
import Derived.Test.YthjmdpekcleihaaPx12
import Derived.Test.YthjmdpekcleihaaPx14
import Derived.Test.YthjmdpekcleihaaPx15
namespace Go.Proofs.Ythjmdpekcleihaa.P
open Go.RowKit Go.Proofs.YthjmdpekcleihaaW.PrintWords Go.Proofs.YthjmdpekcleihaaW.PrintLast Go.Proofs.YthjmdpekcleihaaW.PrintMore
attribute [local go_sem] max2_int min2_int max_two min_two max_three min_three max_four min_four   -- for this text's walks alone
set_option linter.unusedVariables false
set_option linter.unusedSimpArgs false

/-! ### hinterlandref17_Copy: function 44 -/
def hinterlandref17_Copy.f (a0_0 : Int) (a0_1 : Int) (l0_2 : List Int) (l0_3 : List Int) (l0_4 : List Int) (l0_5 : List (S50)) : Option (Int × Int × List Int × List Int × List Int × (List (S50))) := (some (([] : List Int) : List Int)).bind fun y285 => (if y285.length + l0_2.length < 17592186044416 then ((some (([] : List Int) : List Int)).bind fun y291 => (if y291.length + l0_3.length < 17592186044416 then ((some (([] : List Int) : List Int)).bind fun y297 => (if y297.length + l0_4.length < 17592186044416 then ((some (([] : List (S50)) : List (S50))).bind fun y303 => (if y303.length + l0_5.length < 3518437208883 then (some (a0_0, a0_1, (y285 ++ l0_2), (y291 ++ l0_3), (y297 ++ l0_4), (y303 ++ l0_5))) else (none))) else (none))) else (none))) else (none))
set_option maxHeartbeats 8000000 in
set_option maxRecDepth 100000 in
theorem hinterlandref17_Copy.calls (a0_0 : Int) (a0_1 : Int) (A0_2 : Option Addr) (c0_2 : Nat) (l0_2 : List Int) (A0_3 : Option Addr) (c0_3 : Nat) (l0_3 : List Int) (A0_4 : Option Addr) (c0_4 : Nat) (l0_4 : List Int) (A0_5 : Option Addr) (c0_5 : Nat) (l0_5 : List (S50)) (r1 : Int) (r2 : Int) (r3 : List Int) (r4 : List Int) (r5 : List Int) (r6 : List (S50)) (w : World) (hr0_2 : Kd.C (Kd.int .i64) w A0_2 l0_2.length l0_2) (hc0_2 : l0_2.length ≤ c0_2) (hr0_3 : Kd.C (Kd.int .i64) w A0_3 l0_3.length l0_3) (hc0_3 : l0_3.length ≤ c0_3) (hr0_4 : Kd.C (Kd.int .i64) w A0_4 l0_4.length l0_4) (hc0_4 : l0_4.length ≤ c0_4) (hr0_5 : Kd.C k50 w A0_5 l0_5.length l0_5) (hc0_5 : l0_5.length ≤ c0_5) (h : hinterlandref17_Copy.f a0_0 a0_1 l0_2 l0_3 l0_4 l0_5 = some (r1, r2, r3, r4, r5, r6)) :
  Calls Try.prog 44 #[.agg #[.int .i64 a0_0,.int .i64 a0_1,.slice A0_2 l0_2.length c0_2,.slice A0_3 l0_3.length c0_3,.slice A0_4 l0_4.length c0_4,.slice A0_5 l0_5.length c0_5]] w fun e w' => ∃ v2_ v3_ v4_ v5_ : Value,e = .returned (.agg #[.int .i64 r1,.int .i64 r2,v2_,v3_,v4_,v5_]) ∧ Kd.R (Kd.int .i64) 3 w' w.heap.size (fun k_ => some k_ ≠ (v3_ : Value).ownBlock ∧ some k_ ≠ (v4_ : Value).ownBlock) v2_ r3 ∧ Kd.R (Kd.int .i64) 3 w' w.heap.size (fun k_ => some k_ ≠ (v2_ : Value).ownBlock ∧ some k_ ≠ (v4_ : Value).ownBlock) v3_ r4 ∧ Kd.R (Kd.int .i64) 3 w' w.heap.size (fun k_ => some k_ ≠ (v2_ : Value).ownBlock ∧ some k_ ≠ (v3_ : Value).ownBlock) v4_ r5 ∧ Kd.R k50 50 w' w.heap.size (fun _ => True) v5_ r6 ∧ Below w.heap.size w w':=by
 have hu33:=Try.underlying33
 have HR0_2:=Aside0.mk hr0_2
 have HC0_2:=Aside0.mk hc0_2
 clear hr0_2 hc0_2
 have HR0_3:=Aside0.mk hr0_3
 have HC0_3:=Aside0.mk hc0_3
 clear hr0_3 hc0_3
 have HR0_4:=Aside0.mk hr0_4
 have HC0_4:=Aside0.mk hc0_4
 clear hr0_4 hc0_4
 have HR0_5:=Aside0.mk hr0_5
 have HC0_5:=Aside0.mk hc0_5
 clear hr0_5 hc0_5
 have HB:=Aside0.mk (Below.refl w.heap.size w)
 have H : ((some (([] : List Int) : List Int)).bind fun y285 => (if y285.length + l0_2.length < 17592186044416 then ((some (([] : List Int) : List Int)).bind fun y291 => (if y291.length + l0_3.length < 17592186044416 then ((some (([] : List Int) : List Int)).bind fun y297 => (if y297.length + l0_4.length < 17592186044416 then ((some (([] : List (S50)) : List (S50))).bind fun y303 => (if y303.length + l0_5.length < 3518437208883 then (some (a0_0,a0_1,(y285 ++ l0_2),(y291 ++ l0_3),(y297 ++ l0_4),(y303 ++ l0_5))) else (none))) else (none))) else (none))) else (none))) = some (r1,r2,r3,r4,r5,r6):=h
 clear h
 obtain ⟨y285,hy285⟩ : ∃ y_ : List Int,y_ = (([] : List Int)):=⟨_,rfl⟩
 replace H : (if y285.length + l0_2.length < 17592186044416 then ((some (([] : List Int) : List Int)).bind fun y291 => (if y291.length + l0_3.length < 17592186044416 then ((some (([] : List Int) : List Int)).bind fun y297 => (if y297.length + l0_4.length < 17592186044416 then ((some (([] : List (S50)) : List (S50))).bind fun y303 => (if y303.length + l0_5.length < 3518437208883 then (some (a0_0,a0_1,(y285 ++ l0_2),(y291 ++ l0_3),(y297 ++ l0_4),(y303 ++ l0_5))) else (none))) else (none))) else (none))) else (none)) = some (r1,r2,r3,r4,r5,r6):=by first|(rw [hy285];with_reducible exact H)|(have H2_:=(Option.bind_some _ _).symm.trans H;rw [hy285];with_reducible exact H2_)|(have H2_:=(Option.bind_some _ _).symm.trans H;with_reducible exact H2_)|with_reducible exact H|(rw [hy285];exact H)|exact H
 have Ny285:=Aside0.mk hy285
 clear hy285
 replace H:=ifp_ H;obtain ⟨c2,H⟩:=H
 have LMc2:=Aside0.mk c2
 clear c2
 obtain ⟨y288,hy288⟩ : ∃ y_ : List Int,y_ = (y285 ++ l0_2):=⟨_,rfl⟩
 replace H : ((some (([] : List Int) : List Int)).bind fun y291 => (if y291.length + l0_3.length < 17592186044416 then ((some (([] : List Int) : List Int)).bind fun y297 => (if y297.length + l0_4.length < 17592186044416 then ((some (([] : List (S50)) : List (S50))).bind fun y303 => (if y303.length + l0_5.length < 3518437208883 then (some (a0_0,a0_1,y288,(y291 ++ l0_3),(y297 ++ l0_4),(y303 ++ l0_5))) else (none))) else (none))) else (none))) = some (r1,r2,r3,r4,r5,r6):=by first|(rw [hy288];with_reducible exact H)|(have H2_:=(Option.bind_some _ _).symm.trans H;rw [hy288];with_reducible exact H2_)|(have H2_:=(Option.bind_some _ _).symm.trans H;with_reducible exact H2_)|with_reducible exact H|(rw [hy288];exact H)|exact H
 have Ny288:=Aside0.mk hy288
 clear hy288
 obtain ⟨y291,hy291⟩ : ∃ y_ : List Int,y_ = (([] : List Int)):=⟨_,rfl⟩
 replace H : (if y291.length + l0_3.length < 17592186044416 then ((some (([] : List Int) : List Int)).bind fun y297 => (if y297.length + l0_4.length < 17592186044416 then ((some (([] : List (S50)) : List (S50))).bind fun y303 => (if y303.length + l0_5.length < 3518437208883 then (some (a0_0,a0_1,y288,(y291 ++ l0_3),(y297 ++ l0_4),(y303 ++ l0_5))) else (none))) else (none))) else (none)) = some (r1,r2,r3,r4,r5,r6):=by first|(rw [hy291];with_reducible exact H)|(have H2_:=(Option.bind_some _ _).symm.trans H;rw [hy291];with_reducible exact H2_)|(have H2_:=(Option.bind_some _ _).symm.trans H;with_reducible exact H2_)|with_reducible exact H|(rw [hy291];exact H)|exact H
 have Ny291:=Aside0.mk hy291
 clear hy291
 replace H:=ifp_ H;obtain ⟨c3,H⟩:=H
 have LMc3:=Aside0.mk c3
 clear c3
 obtain ⟨y294,hy294⟩ : ∃ y_ : List Int,y_ = (y291 ++ l0_3):=⟨_,rfl⟩
 replace H : ((some (([] : List Int) : List Int)).bind fun y297 => (if y297.length + l0_4.length < 17592186044416 then ((some (([] : List (S50)) : List (S50))).bind fun y303 => (if y303.length + l0_5.length < 3518437208883 then (some (a0_0,a0_1,y288,y294,(y297 ++ l0_4),(y303 ++ l0_5))) else (none))) else (none))) = some (r1,r2,r3,r4,r5,r6):=by first|(rw [hy294];with_reducible exact H)|(have H2_:=(Option.bind_some _ _).symm.trans H;rw [hy294];with_reducible exact H2_)|(have H2_:=(Option.bind_some _ _).symm.trans H;with_reducible exact H2_)|with_reducible exact H|(rw [hy294];exact H)|exact H
 have Ny294:=Aside0.mk hy294
 clear hy294
 obtain ⟨y297,hy297⟩ : ∃ y_ : List Int,y_ = (([] : List Int)):=⟨_,rfl⟩
 replace H : (if y297.length + l0_4.length < 17592186044416 then ((some (([] : List (S50)) : List (S50))).bind fun y303 => (if y303.length + l0_5.length < 3518437208883 then (some (a0_0,a0_1,y288,y294,(y297 ++ l0_4),(y303 ++ l0_5))) else (none))) else (none)) = some (r1,r2,r3,r4,r5,r6):=by first|(rw [hy297];with_reducible exact H)|(have H2_:=(Option.bind_some _ _).symm.trans H;rw [hy297];with_reducible exact H2_)|(have H2_:=(Option.bind_some _ _).symm.trans H;with_reducible exact H2_)|with_reducible exact H|(rw [hy297];exact H)|exact H
 have Ny297:=Aside0.mk hy297
 clear hy297
 replace H:=ifp_ H;obtain ⟨c4,H⟩:=H
 have LMc4:=Aside0.mk c4
 clear c4
 obtain ⟨y300,hy300⟩ : ∃ y_ : List Int,y_ = (y297 ++ l0_4):=⟨_,rfl⟩
 replace H : ((some (([] : List (S50)) : List (S50))).bind fun y303 => (if y303.length + l0_5.length < 3518437208883 then (some (a0_0,a0_1,y288,y294,y300,(y303 ++ l0_5))) else (none))) = some (r1,r2,r3,r4,r5,r6):=by first|(rw [hy300];with_reducible exact H)|(have H2_:=(Option.bind_some _ _).symm.trans H;rw [hy300];with_reducible exact H2_)|(have H2_:=(Option.bind_some _ _).symm.trans H;with_reducible exact H2_)|with_reducible exact H|(rw [hy300];exact H)|exact H
 have Ny300:=Aside0.mk hy300
 clear hy300
 obtain ⟨y303,hy303⟩ : ∃ y_ : List (S50),y_ = (([] : List (S50))):=⟨_,rfl⟩
 replace H : (if y303.length + l0_5.length < 3518437208883 then (some (a0_0,a0_1,y288,y294,y300,(y303 ++ l0_5))) else (none)) = some (r1,r2,r3,r4,r5,r6):=by first|(rw [hy303];with_reducible exact H)|(have H2_:=(Option.bind_some _ _).symm.trans H;rw [hy303];with_reducible exact H2_)|(have H2_:=(Option.bind_some _ _).symm.trans H;with_reducible exact H2_)|with_reducible exact H|(rw [hy303];exact H)|exact H
 have Ny303:=Aside0.mk hy303
 clear hy303
 replace H:=ifp_ H;obtain ⟨c5,H⟩:=H
 have LMc5:=Aside0.mk c5
 clear c5
 obtain ⟨y306,hy306⟩ : ∃ y_ : List (S50),y_ = (y303 ++ l0_5):=⟨_,rfl⟩
 replace H : (some (a0_0,a0_1,y288,y294,y300,y306)) = some (r1,r2,r3,r4,r5,r6):=by first|(rw [hy306];with_reducible exact H)|(have H2_:=(Option.bind_some _ _).symm.trans H;rw [hy306];with_reducible exact H2_)|(have H2_:=(Option.bind_some _ _).symm.trans H;with_reducible exact H2_)|with_reducible exact H|(rw [hy306];exact H)|exact H
 have Ny306:=Aside0.mk hy306
 clear hy306
 simp only [Option.some.injEq,Prod.mk.injEq] at H
 obtain ⟨rfl,rfl,rfl,rfl,rfl,rfl⟩:=H
 go_enter Try.func44,Try.ntmps44
 go_wp2_with (first|((with_reducible refine gate_dst (N:=1) rfl ?_);refine box_ev (N:=1) (cs:=#[.int .i64 a0_0,.int .i64 a0_1,.slice A0_2 l0_2.length c0_2,.slice A0_3 l0_3.length c0_3,.slice A0_4 l0_4.length c0_4,.slice A0_5 l0_5.length c0_5]) (t:=33) ?_;intro gb283 hg w6 hbox hb;have BK283:=Aside0.mk (hbox);have GW283 : Aside0 (w.heap.size ≤ gb283):=gsz hg;have GE283:=GW283;replace HB:=hbs hb;clear hb hbox hg)|((with_reducible refine gate_dst (N:=2) rfl ?_);refine box_ev (N:=2) (cs:=#[.int .i64 0,.int .i64 0,.slice none 0 0,.slice none 0 0,.slice none 0 0,.slice none 0 0]) (t:=33) ?_;intro gb284 hg w7 hbox hb;have BK284:=Aside0.mk (hbox);have GW284 : Aside0 (w.heap.size ≤ gb284):=gsz hg;have GE284:=GW284;have NB283_284:=nbl BK283 hg;have NB284_283:=nbr BK283 hg;replace BK283:=bkb BK283 hb;replace HB:=hbs hb;clear hb hbox hg)|((with_reducible refine gate_dst (N:=3) rfl ?_);refine Kd.R_lit (Kd.int .i64) _ 3 ?hg (N:=3) ?hd (xs:=([] : List Int)) (inner:=[]) (ok:=fun _ => True) (okp:=fun _ => True) ?hr ?hp (fun _ hk => hk) trivial (Below.refl _ _) (Nat.le_refl _) (by simp) ?_;(case hd => rfl);(case hg => rfl);(case hr => first|(go_simp;done)|(go_simp;rfl));(case hp => exact (Reps.none _ _));intro v286 w8 ho9 hb hg_ hnew_;clear hg_ hnew_;(first|rw [← Ny285.out] at ho9|(simp only [Int.reduceToNat] at ho9;rw [← Ny285.out] at ho9));have HO287:=rlo ho9;replace BK283:=bkb BK283 hb;replace BK284:=bkb BK284 hb;replace HB:=hbs hb;clear hb ho9;have hnb10:=NB283_284.out;have hnc10:=NB284_283.out;obtain ⟨_,_,_,_,_,_,_,_,_,_,_,_⟩:=cells6 BK283.out)|((with_reducible refine gate_builtin (b:=.append) (xs:=#[.tmp 3,.tmp 6]) rfl ?_);at_builtin;refine Kd.R_append_rows (Kd.int .i64) (w0:=w) w.heap.size rfl (.tmp 3) (.tmp 6) 22 3 (.int .i64 0) 8 rfl Try.underlying22 info3 rfl (by decide) (by omega) v286 y285 l0_2 _ _ _ (fun _ => True) (fun _ => False) rfl rfl ?aO ?aR (fun _ _ h => h) (fun _ h => h.elim) ?aF ?aB ?aS ?aL ?_;(case aR => exact Kd.C_up (Kd.C_below HR0_2.out HB.out));(case aB => exact (hb_));(case aF => exact (fun _ _ => trivial));(case aO => exact (Kd.R_up HO287.out));(case aS => exact (below_size (hb_)));(case aL => have:=LMc2.out;omega);intro v289 w12 ho hb hg hat;rw [← Ny288.out] at ho;have HO290:=Aside0.mk (ho);replace BK283:=Aside0.mk (blk_grown (blk_up BK283.out) hg (Kd.R_ne HO287.out BK283.out (by decide)));replace BK284:=Aside0.mk (blk_grown (blk_up BK284.out) hg (Kd.R_ne HO287.out BK284.out (by decide)));replace HB:=Aside0.mk (hb);clear HO287;clear ho hb hg hat;obtain ⟨Ao13,co13,eo13⟩:=Kd.R_slice HO290.out;subst eo13;obtain ⟨_,_,_,_,_,_,_,_,_,_,_,_⟩:=cells6 BK283.out)|((with_reducible refine gate_dst (N:=10) rfl ?_);refine Kd.R_lit (Kd.int .i64) _ 3 ?hg (N:=10) ?hd (xs:=([] : List Int)) (inner:=[]) (ok:=fun _ => True) (okp:=fun _ => True) ?hr ?hp (fun _ hk => hk) trivial (Below.refl _ _) (Nat.le_refl _) (by simp) ?_;(case hd => rfl);(case hg => rfl);(case hr => first|(go_simp;done)|(go_simp;rfl));(case hp => exact (Reps.none _ _));intro v292 w15 ho16 hb hg_ hnew_;clear hg_ hnew_;(first|rw [← Ny291.out] at ho16|(simp only [Int.reduceToNat] at ho16;rw [← Ny291.out] at ho16));have HO293:=Aside0.mk (Kd.R_lower (Kd.R_new' ho16 (Kd.R_lt (by (with_reducible repeat (first|apply Kd.R_alloc|apply Kd.R_drewN|apply Kd.R_drew));exact (Kd.R_mono (Kd.R_far (p:=⟨gb283,2,none⟩) (Kd.R_types HO290.out BK283.out (by decide)) (fun _ hk => hk.2) (.slice Ao13 y288.length co13)) (fun _ h_ => h_.1))))) (below_size (hb_)));replace HO290:=Aside0.mk (Kd.R_elder' (by (with_reducible repeat (first|apply Kd.R_alloc|apply Kd.R_drewN|apply Kd.R_drew));exact (Kd.R_mono (Kd.R_far (p:=⟨gb283,2,none⟩) (Kd.R_types HO290.out BK283.out (by decide)) (fun _ hk => hk.2) (.slice Ao13 y288.length co13)) (fun _ h_ => h_.1))) (Kd.R_base ho16) hb);replace BK283:=Aside0.mk (blk_below (g:=gb283) (o:=.cells #[.int .i64 a0_0,.int .i64 a0_1,.slice Ao13 y288.length co13,.slice A0_3 l0_3.length c0_3,.slice A0_4 l0_4.length c0_4,.slice A0_5 l0_5.length c0_5] 33 (0,0)) (by (with_reducible repeat (first|refine blk_drewN ?_ _|refine blk_drew ?_|refine blk_alloc ?_ _));refine blk_put (cs:=#[.int .i64 a0_0,.int .i64 a0_1,.slice A0_2 l0_2.length c0_2,.slice A0_3 l0_3.length c0_3,.slice A0_4 l0_4.length c0_4,.slice A0_5 l0_5.length c0_5]) ?_ 2 _ rfl;(with_reducible repeat (first|refine blk_drewN ?_ _|refine blk_drew ?_|refine blk_alloc ?_ _));exact BK283.out) hb);replace BK284:=Aside0.mk (blk_below (g:=gb284) (o:=.cells #[.int .i64 0,.int .i64 0,.slice none 0 0,.slice none 0 0,.slice none 0 0,.slice none 0 0] 33 (0,0)) (by (with_reducible repeat (first|refine blk_drewN ?_ _|refine blk_drew ?_|refine blk_alloc ?_ _));refine blk_far ?_ NB284_283.out _;(with_reducible repeat (first|refine blk_drewN ?_ _|refine blk_drew ?_|refine blk_alloc ?_ _));exact BK284.out) hb);replace HB:=hbs hb;clear hb ho16;obtain ⟨_,_,_,_,_,_,_,_,_,_,_,_⟩:=cells6 BK283.out)|((with_reducible refine gate_builtin (b:=.append) (xs:=#[.tmp 10,.tmp 13]) rfl ?_);at_builtin;refine Kd.R_append_rows (Kd.int .i64) (w0:=w) w.heap.size rfl (.tmp 10) (.tmp 13) 22 3 (.int .i64 0) 8 rfl Try.underlying22 info3 rfl (by decide) (by omega) v292 y291 l0_3 _ _ _ (fun k_ => some k_ ≠ (.slice Ao13 y288.length co13 : Value).ownBlock) (fun _ => False) rfl rfl ?aO ?aR (fun _ _ h => h) (fun _ h => h.elim) ?aF ?aB ?aS ?aL ?_;(case aR => exact Kd.C_up (Kd.C_below HR0_3.out HB.out));(case aB => exact (hb_));(case aF => exact (fun k_ hk => Kd.fresh' (Kd.R_lt (Kd.R_up HO290.out)) k_ hk));(case aO => exact (by (with_reducible repeat (first|apply Kd.R_alloc|apply Kd.R_drewN|apply Kd.R_drew));exact Kd.R_mono HO293.out (fun _ hk => hk.2)));(case aS => exact (below_size (hb_)));(case aL => have:=LMc3.out;omega);intro v295 w18 ho hb hg hat;rw [← Ny294.out] at ho;have HO296:=Aside0.mk (ho);replace BK283:=Aside0.mk (blk_grown (blk_up BK283.out) hg (Kd.R_ne HO293.out BK283.out (by decide)));replace BK284:=Aside0.mk (blk_grown (blk_up BK284.out) hg (Kd.R_ne HO293.out BK284.out (by decide)));replace HO290:=Aside0.mk (Kd.R_after (ok:=(fun _ => True)) (Kd.R_up HO290.out) hg hat);replace HB:=Aside0.mk (hb);clear HO293;clear ho hb hg hat;obtain ⟨Ao19,co19,eo19⟩:=Kd.R_slice HO296.out;subst eo19;obtain ⟨_,_,_,_,_,_,_,_,_,_,_,_⟩:=cells6 BK283.out)|((with_reducible refine gate_dst (N:=17) rfl ?_);refine Kd.R_lit (Kd.int .i64) _ 3 ?hg (N:=17) ?hd (xs:=([] : List Int)) (inner:=[]) (ok:=fun _ => True) (okp:=fun _ => True) ?hr ?hp (fun _ hk => hk) trivial (Below.refl _ _) (Nat.le_refl _) (by simp) ?_;(case hd => rfl);(case hg => rfl);(case hr => first|(go_simp;done)|(go_simp;rfl));(case hp => exact (Reps.none _ _));intro v298 w21 ho22 hb hg_ hnew_;clear hg_ hnew_;(first|rw [← Ny297.out] at ho22|(simp only [Int.reduceToNat] at ho22;rw [← Ny297.out] at ho22));have HO299:=Aside0.mk (Kd.R_lower (Kd.R_new' (Kd.R_new' ho22 (Kd.R_lt (by (with_reducible repeat (first|apply Kd.R_alloc|apply Kd.R_drewN|apply Kd.R_drew));exact (Kd.R_mono (Kd.R_far (p:=⟨gb283,3,none⟩) (Kd.R_types HO290.out BK283.out (by decide)) (fun _ hk => hk.2) (.slice Ao19 y294.length co19)) (fun _ h_ => h_.1))))) (Kd.R_lt (by (with_reducible repeat (first|apply Kd.R_alloc|apply Kd.R_drewN|apply Kd.R_drew));exact (Kd.R_mono (Kd.R_far (p:=⟨gb283,3,none⟩) (Kd.R_types HO296.out BK283.out (by decide)) (fun _ hk => hk.2) (.slice Ao19 y294.length co19)) (fun _ h_ => h_.1))))) (below_size (hb_)));replace HO290:=Aside0.mk (Kd.R_elder' (by (with_reducible repeat (first|apply Kd.R_alloc|apply Kd.R_drewN|apply Kd.R_drew));exact (Kd.R_mono (Kd.R_far (p:=⟨gb283,3,none⟩) (Kd.R_types HO290.out BK283.out (by decide)) (fun _ hk => hk.2) (.slice Ao19 y294.length co19)) (fun _ h_ => h_.1))) (Kd.R_base ho22) hb);replace HO296:=Aside0.mk (Kd.R_elder' (by (with_reducible repeat (first|apply Kd.R_alloc|apply Kd.R_drewN|apply Kd.R_drew));exact (Kd.R_mono (Kd.R_far (p:=⟨gb283,3,none⟩) (Kd.R_types HO296.out BK283.out (by decide)) (fun _ hk => hk.2) (.slice Ao19 y294.length co19)) (fun _ h_ => h_.1))) (Kd.R_base ho22) hb);replace BK283:=Aside0.mk (blk_below (g:=gb283) (o:=.cells #[.int .i64 a0_0,.int .i64 a0_1,.slice Ao13 y288.length co13,.slice Ao19 y294.length co19,.slice A0_4 l0_4.length c0_4,.slice A0_5 l0_5.length c0_5] 33 (0,0)) (by (with_reducible repeat (first|refine blk_drewN ?_ _|refine blk_drew ?_|refine blk_alloc ?_ _));refine blk_put (cs:=#[.int .i64 a0_0,.int .i64 a0_1,.slice Ao13 y288.length co13,.slice A0_3 l0_3.length c0_3,.slice A0_4 l0_4.length c0_4,.slice A0_5 l0_5.length c0_5]) ?_ 3 _ rfl;(with_reducible repeat (first|refine blk_drewN ?_ _|refine blk_drew ?_|refine blk_alloc ?_ _));exact BK283.out) hb);replace BK284:=Aside0.mk (blk_below (g:=gb284) (o:=.cells #[.int .i64 0,.int .i64 0,.slice none 0 0,.slice none 0 0,.slice none 0 0,.slice none 0 0] 33 (0,0)) (by (with_reducible repeat (first|refine blk_drewN ?_ _|refine blk_drew ?_|refine blk_alloc ?_ _));refine blk_far ?_ NB284_283.out _;(with_reducible repeat (first|refine blk_drewN ?_ _|refine blk_drew ?_|refine blk_alloc ?_ _));exact BK284.out) hb);replace HB:=hbs hb;clear hb ho22;obtain ⟨_,_,_,_,_,_,_,_,_,_,_,_⟩:=cells6 BK283.out)|((with_reducible refine gate_builtin (b:=.append) (xs:=#[.tmp 17,.tmp 19]) rfl ?_);at_builtin;refine Kd.R_append_rows (Kd.int .i64) (w0:=w) w.heap.size rfl (.tmp 17) (.tmp 19) 22 3 (.int .i64 0) 8 rfl Try.underlying22 info3 rfl (by decide) (by omega) v298 y297 l0_4 _ _ _ (fun k_ => some k_ ≠ (.slice Ao13 y288.length co13 : Value).ownBlock ∧ some k_ ≠ (.slice Ao19 y294.length co19 : Value).ownBlock) (fun _ => False) rfl rfl ?aO ?aR (fun _ _ h => h) (fun _ h => h.elim) ?aF ?aB ?aS ?aL ?_;(case aR => exact Kd.C_up (Kd.C_below HR0_4.out HB.out));(case aB => exact (hb_));(case aF => exact (fun k_ hk => ⟨Kd.fresh' (Kd.R_lt (Kd.R_up HO290.out)) k_ hk,Kd.fresh' (Kd.R_lt (Kd.R_up HO296.out)) k_ hk⟩));(case aO => exact (by (with_reducible repeat (first|apply Kd.R_alloc|apply Kd.R_drewN|apply Kd.R_drew));exact Kd.R_mono HO299.out (fun _ hk => ⟨hk.1.2,hk.2⟩)));(case aS => exact (below_size (hb_)));(case aL => have:=LMc4.out;omega);intro v301 w24 ho hb hg hat;rw [← Ny300.out] at ho;have HO302:=Aside0.mk (ho);replace BK283:=Aside0.mk (blk_grown (blk_up BK283.out) hg (Kd.R_ne HO299.out BK283.out (by decide)));replace BK284:=Aside0.mk (blk_grown (blk_up BK284.out) hg (Kd.R_ne HO299.out BK284.out (by decide)));replace HO290:=Aside0.mk (Kd.R_after (ok:=(fun k_ => some k_ ≠ (.slice Ao19 y294.length co19 : Value).ownBlock)) (by (with_reducible repeat (first|apply Kd.R_alloc|apply Kd.R_drewN|apply Kd.R_drew));exact Kd.R_mono HO290.out (fun _ hk => ⟨hk.1.2,hk.2⟩)) hg hat);replace HO296:=Aside0.mk (Kd.R_after (ok:=(fun k_ => some k_ ≠ (.slice Ao13 y288.length co13 : Value).ownBlock)) (Kd.R_up HO296.out) hg hat);replace HB:=Aside0.mk (hb);clear HO299;clear ho hb hg hat;obtain ⟨Ao25,co25,eo25⟩:=Kd.R_slice HO302.out;subst eo25;obtain ⟨_,_,_,_,_,_,_,_,_,_,_,_⟩:=cells6 BK283.out)|((with_reducible refine gate_dst (N:=22) rfl ?_);refine Kd.R_lit k50 _ 50 ?hg (N:=22) ?hd (xs:=([] : List (S50))) (inner:=[]) (ok:=fun _ => True) (okp:=fun _ => True) ?hr ?hp (fun _ hk => hk) trivial (Below.refl _ _) (Nat.le_refl _) (by simp) ?_;(case hd => rfl);(case hg => rfl);(case hr => first|(go_simp;done)|(go_simp;rfl));(case hp => exact (Reps.none _ _));intro v304 w27 ho28 hb hg_ hnew_;clear hg_ hnew_;(first|rw [← Ny303.out] at ho28|(simp only [Int.reduceToNat] at ho28;rw [← Ny303.out] at ho28));have HO305:=rlo ho28;replace HO290:=Aside0.mk (Kd.R_below (by (with_reducible repeat (first|apply Kd.R_alloc|apply Kd.R_drewN|apply Kd.R_drew));exact (Kd.R_mono (Kd.R_far (p:=⟨gb283,4,none⟩) (Kd.R_types HO290.out BK283.out (by decide)) (fun _ hk => hk.2) (.slice Ao25 y300.length co25)) (fun _ h_ => h_.1))) hb);replace HO296:=Aside0.mk (Kd.R_below (by (with_reducible repeat (first|apply Kd.R_alloc|apply Kd.R_drewN|apply Kd.R_drew));exact (Kd.R_mono (Kd.R_far (p:=⟨gb283,4,none⟩) (Kd.R_types HO296.out BK283.out (by decide)) (fun _ hk => hk.2) (.slice Ao25 y300.length co25)) (fun _ h_ => h_.1))) hb);replace HO302:=Aside0.mk (Kd.R_below (by (with_reducible repeat (first|apply Kd.R_alloc|apply Kd.R_drewN|apply Kd.R_drew));exact (Kd.R_mono (Kd.R_far (p:=⟨gb283,4,none⟩) (Kd.R_types HO302.out BK283.out (by decide)) (fun _ hk => hk.2) (.slice Ao25 y300.length co25)) (fun _ h_ => h_.1))) hb);replace BK283:=Aside0.mk (blk_below (g:=gb283) (o:=.cells #[.int .i64 a0_0,.int .i64 a0_1,.slice Ao13 y288.length co13,.slice Ao19 y294.length co19,.slice Ao25 y300.length co25,.slice A0_5 l0_5.length c0_5] 33 (0,0)) (by (with_reducible repeat (first|refine blk_drewN ?_ _|refine blk_drew ?_|refine blk_alloc ?_ _));refine blk_put (cs:=#[.int .i64 a0_0,.int .i64 a0_1,.slice Ao13 y288.length co13,.slice Ao19 y294.length co19,.slice A0_4 l0_4.length c0_4,.slice A0_5 l0_5.length c0_5]) ?_ 4 _ rfl;(with_reducible repeat (first|refine blk_drewN ?_ _|refine blk_drew ?_|refine blk_alloc ?_ _));exact BK283.out) hb);replace BK284:=Aside0.mk (blk_below (g:=gb284) (o:=.cells #[.int .i64 0,.int .i64 0,.slice none 0 0,.slice none 0 0,.slice none 0 0,.slice none 0 0] 33 (0,0)) (by (with_reducible repeat (first|refine blk_drewN ?_ _|refine blk_drew ?_|refine blk_alloc ?_ _));refine blk_far ?_ NB284_283.out _;(with_reducible repeat (first|refine blk_drewN ?_ _|refine blk_drew ?_|refine blk_alloc ?_ _));exact BK284.out) hb);replace HB:=hbs hb;clear hb ho28;obtain ⟨_,_,_,_,_,_,_,_,_,_,_,_⟩:=cells6 BK283.out)|((with_reducible refine gate_builtin (b:=.append) (xs:=#[.tmp 22,.tmp 24]) rfl ?_);at_builtin;refine Kd.R_append_rows k50 (w0:=w) w.heap.size rfl (.tmp 22) (.tmp 24) 31 50 (.agg #[(.int .i64 0),(.int .i64 0),(.int .i64 0),(.int .i64 0),(.int .i64 0)]) 40 rfl Try.underlying31 info50 rfl (by decide) (by omega) v304 y303 l0_5 _ _ _ (fun _ => True) (fun _ => False) rfl rfl ?aO ?aR (fun _ _ h => h) (fun _ h => h.elim) ?aF ?aB ?aS ?aL ?_;(case aR => exact Kd.C_up (Kd.C_below HR0_5.out HB.out));(case aB => exact (hb_));(case aF => exact (fun _ _ => trivial));(case aO => exact (Kd.R_up HO305.out));(case aS => exact (below_size (hb_)));(case aL => have:=LMc5.out;omega);intro v307 w30 ho hb hg hat;rw [← Ny306.out] at ho;have HO308:=Aside0.mk (ho);replace BK283:=Aside0.mk (blk_grown (blk_up BK283.out) hg (Kd.R_ne HO305.out BK283.out (by decide)));replace BK284:=Aside0.mk (blk_grown (blk_up BK284.out) hg (Kd.R_ne HO305.out BK284.out (by decide)));replace HO290:=Aside0.mk (Kd.R_over' (Kd.R_up HO290.out) (Kd.R_typed (Kd.R_up HO305.out)) (by decide) hg);replace HO296:=Aside0.mk (Kd.R_over' (Kd.R_up HO296.out) (Kd.R_typed (Kd.R_up HO305.out)) (by decide) hg);replace HO302:=Aside0.mk (Kd.R_over' (Kd.R_up HO302.out) (Kd.R_typed (Kd.R_up HO305.out)) (by decide) hg);replace HB:=Aside0.mk (hb);clear HO305;clear ho hb hg hat;obtain ⟨Ao31,co31,eo31⟩:=Kd.R_slice HO308.out;subst eo31;obtain ⟨_,_,_,_,_,_,_,_,_,_,_,_⟩:=cells6 BK283.out;obtain ⟨_,_,_,_,_,_,_,_,_,_,_,_⟩:=cells6 BK284.out))
 refine bodyPost_ret (results_cell_row rfl _ _ gb284 33 #[.int .i64 a0_0,.int .i64 a0_1,.slice Ao13 y288.length co13,.slice Ao19 y294.length co19,.slice Ao25 y300.length co25,.slice Ao31 y306.length co31] (0,0) _ rfl (by (with_reducible repeat (first|refine blk_drewN ?_ _|refine blk_drew ?_|refine blk_alloc ?_ _));refine blk_put (cs:=#[.int .i64 a0_0,.int .i64 a0_1,.slice Ao13 y288.length co13,.slice Ao19 y294.length co19,.slice Ao25 y300.length co25,.slice none 0 0]) ?_ 5 _ rfl;(with_reducible repeat (first|refine blk_drewN ?_ _|refine blk_drew ?_|refine blk_alloc ?_ _));refine blk_put (cs:=#[.int .i64 a0_0,.int .i64 a0_1,.slice Ao13 y288.length co13,.slice Ao19 y294.length co19,.slice none 0 0,.slice none 0 0]) ?_ 4 _ rfl;(with_reducible repeat (first|refine blk_drewN ?_ _|refine blk_drew ?_|refine blk_alloc ?_ _));refine blk_put (cs:=#[.int .i64 a0_0,.int .i64 a0_1,.slice Ao13 y288.length co13,.slice none 0 0,.slice none 0 0,.slice none 0 0]) ?_ 3 _ rfl;(with_reducible repeat (first|refine blk_drewN ?_ _|refine blk_drew ?_|refine blk_alloc ?_ _));refine blk_put (cs:=#[.int .i64 a0_0,.int .i64 a0_1,.slice none 0 0,.slice none 0 0,.slice none 0 0,.slice none 0 0]) ?_ 2 _ rfl;(with_reducible repeat (first|refine blk_drewN ?_ _|refine blk_drew ?_|refine blk_alloc ?_ _));refine blk_put (cs:=#[.int .i64 a0_0,.int .i64 0,.slice none 0 0,.slice none 0 0,.slice none 0 0,.slice none 0 0]) ?_ 1 _ rfl;(with_reducible repeat (first|refine blk_drewN ?_ _|refine blk_drew ?_|refine blk_alloc ?_ _));refine blk_put (cs:=#[.int .i64 0,.int .i64 0,.slice none 0 0,.slice none 0 0,.slice none 0 0,.slice none 0 0]) ?_ 0 _ rfl;(with_reducible repeat (first|refine blk_drewN ?_ _|refine blk_drew ?_|refine blk_alloc ?_ _));refine blk_far ?_ NB284_283.out _;(with_reducible repeat (first|refine blk_drewN ?_ _|refine blk_drew ?_|refine blk_alloc ?_ _));exact BK284.out) Try.underlying33 rfl (by kernel_rfl)) rfl ?_
 exact ⟨_,_,_,_,er_,by (with_reducible repeat (first|apply Kd.R_alloc|apply Kd.R_drewN|apply Kd.R_drew));exact Kd.R_mono (Kd.R_fars gb284 (Kd.R_far (p:=⟨gb283,5,none⟩) (Kd.R_types (Kd.R_types HO290.out BK283.out (by decide)) BK284.out (by decide)) (fun _ hk => hk.1.2) (.slice Ao31 y306.length co31)) (fun _ hk => hk.2)) (fun _ hk => ⟨hk.1.1.1,hk.1.1.2⟩),by (with_reducible repeat (first|apply Kd.R_alloc|apply Kd.R_drewN|apply Kd.R_drew));exact Kd.R_mono (Kd.R_fars gb284 (Kd.R_far (p:=⟨gb283,5,none⟩) (Kd.R_types (Kd.R_types HO296.out BK283.out (by decide)) BK284.out (by decide)) (fun _ hk => hk.1.2) (.slice Ao31 y306.length co31)) (fun _ hk => hk.2)) (fun _ hk => ⟨hk.1.1.1,hk.1.1.2⟩),by (with_reducible repeat (first|apply Kd.R_alloc|apply Kd.R_drewN|apply Kd.R_drew));exact Kd.R_mono (Kd.R_fars gb284 (Kd.R_far (p:=⟨gb283,5,none⟩) (Kd.R_types (Kd.R_types HO302.out BK283.out (by decide)) BK284.out (by decide)) (fun _ hk => hk.1.2) (.slice Ao31 y306.length co31)) (fun _ hk => hk.2)) (fun _ hk => ⟨hk.1.1.1,hk.1.1.2⟩),by (with_reducible repeat (first|apply Kd.R_alloc|apply Kd.R_drewN|apply Kd.R_drew));exact Kd.R_mono (Kd.R_fars gb284 (Kd.R_far (p:=⟨gb283,5,none⟩) (Kd.R_types (Kd.R_types HO308.out BK283.out (by decide)) BK284.out (by decide)) (fun _ hk => hk.1.2) (.slice Ao31 y306.length co31)) (fun _ hk => hk.2)) (fun _ hk => trivial),hb_⟩

/-! ### hinterlandref17_Enter: function 19 -/
mutual
def hinterlandref17_Enter.j0 : Nat → Int → Int → Int → Bool → Int → Int → List Int → List Int → List Int → List (S50) → Option (Int × Int × List Int × List Int × List Int × (List (S50)) × Int)
 | 0,_,_,_,_,_,_,_,_,_,_ => none
 | k + 1,x1,x2,x3,x27,x310000,x310001,x310002,x310003,x310004,x310005 => if x27 = true then (some (0,0,([] : List Int),([] : List Int),([] : List Int),([] : List (S50)),2)) else (if 0 ≤ x1 then (if x1 < (x310005.length : Int) then (if ((rd_T50 x310005 x1).f0) = (-1) then (if x2 < 0 then (hinterlandref17_Enter.j1 k x1 x2 x3 true x310000 x310001 x310002 x310003 x310004 x310005) else (hinterlandref17_Enter.j1 k x1 x2 x3 (decide (x2 ≥ (x310002.length : Int))) x310000 x310001 x310002 x310003 x310004 x310005)) else (some (0,0,([] : List Int),([] : List Int),([] : List Int),([] : List (S50)),13))) else (none)) else (none))
def hinterlandref17_Enter.j1 : Nat → Int → Int → Int → Bool → Int → Int → List Int → List Int → List Int → List (S50) → Option (Int × Int × List Int × List Int × List Int × (List (S50)) × Int)
 | 0,_,_,_,_,_,_,_,_,_,_ => none
 | k + 1,x1,x2,x3,x46,x310000,x310001,x310002,x310003,x310004,x310005 => if x46 = true then (some (0,0,([] : List Int),([] : List Int),([] : List Int),([] : List (S50)),2)) else ((hinterlandref17_choose.f k x310000 x310001 x310002 x310003 x2 (-1) x3).bind fun bt313 => (if bt313.2 = true then ((hinterlandref17_taken.f k x310000 x310001 x310002 x310003 x310004 x310005 x1 x2 bt313.1).bind fun t315 => (if t315 = true then (some (0,0,([] : List Int),([] : List Int),([] : List Int),([] : List (S50)),7)) else ((hinterlandref17_Copy.f x310000 x310001 x310002 x310003 x310004 x310005).bind fun bt316 => (if 0 ≤ x1 then (if x1 < (bt316.2.2.2.2.2.length : Int) then (some (bt316.1,bt316.2.1,bt316.2.2.1,bt316.2.2.2.1,bt316.2.2.2.2.1,(bt316.2.2.2.2.2.set (x1 : Int).toNat (⟨x2,(-1),bt313.1,0,0⟩ : S50)),0)) else (none)) else (none))))) else (some (0,0,([] : List Int),([] : List Int),([] : List Int),([] : List (S50)),2))))
end
def hinterlandref17_Enter.f (k : Nat) (a0_0 : Int) (a0_1 : Int) (l0_2 : List Int) (l0_3 : List Int) (l0_4 : List Int) (l0_5 : List (S50)) (a1 : Int) (a2 : Int) (a3 : Int) : Option (Int × Int × List Int × List Int × List Int × (List (S50)) × Int) := (hinterlandref17_Validate.f k a0_0 a0_1 l0_2 l0_3 l0_4 l0_5).bind fun t311 => (if t311 = 0 then (if a1 < 0 then (hinterlandref17_Enter.j0 k a1 a2 a3 true a0_0 a0_1 l0_2 l0_3 l0_4 l0_5) else (hinterlandref17_Enter.j0 k a1 a2 a3 (decide (a1 ≥ (l0_5.length : Int))) a0_0 a0_1 l0_2 l0_3 l0_4 l0_5)) else (some (0, 0, ([] : List Int), ([] : List Int), ([] : List Int), ([] : List (S50)), t311)))
theorem hinterlandref17_Enter.mono_l : ∀ k, (∀ y0 y1 y2 y3 y4 y5 y6 y7 y8 y9, LeO (hinterlandref17_Enter.j0 k y0 y1 y2 y3 y4 y5 y6 y7 y8 y9) (hinterlandref17_Enter.j0 (k + 1) y0 y1 y2 y3 y4 y5 y6 y7 y8 y9)) ∧ (∀ y0 y1 y2 y3 y4 y5 y6 y7 y8 y9, LeO (hinterlandref17_Enter.j1 k y0 y1 y2 y3 y4 y5 y6 y7 y8 y9) (hinterlandref17_Enter.j1 (k + 1) y0 y1 y2 y3 y4 y5 y6 y7 y8 y9))
 | 0 => ⟨fun _ _ _ _ _ _ _ _ _ _ r h => by simp [hinterlandref17_Enter.j0] at h,fun _ _ _ _ _ _ _ _ _ _ r h => by simp [hinterlandref17_Enter.j1] at h⟩
 | k + 1 => by
  obtain ⟨ih0,ih1⟩:=hinterlandref17_Enter.mono_l k
  refine ⟨?_,?_⟩
  ·intro y0 y1 y2 y3 y4 y5 y6 y7 y8 y9
   unfold hinterlandref17_Enter.j0
   repeat' first
   | (with_reducible exact ih0 _ _ _ _ _ _ _ _ _ _)
   | (with_reducible exact ih1 _ _ _ _ _ _ _ _ _ _)
   | (with_reducible exact hinterlandref17_Validate.mono _ _ _ _ _ _ _)
   | (with_reducible exact hinterlandref17_choose.mono _ _ _ _ _ _ _ _)
   | (with_reducible exact hinterlandref17_taken.mono _ _ _ _ _ _ _ _ _ _)
   | (with_reducible exact LeO.refl _)
   | (with_reducible exact LeO.none _)
   | (with_reducible refine LeO.ite ?_ ?_)
   | (with_reducible refine LeO.bind ?_ (fun _ => ?_))
   | exact ih0 _ _ _ _ _ _ _ _ _ _
   | exact ih1 _ _ _ _ _ _ _ _ _ _
   | exact hinterlandref17_Validate.mono _ _ _ _ _ _ _
   | exact hinterlandref17_choose.mono _ _ _ _ _ _ _ _
   | exact hinterlandref17_taken.mono _ _ _ _ _ _ _ _ _ _
   | exact LeO.none _
   | refine LeO.ite ?_ ?_
   | refine LeO.bind ?_ (fun _ => ?_)
  ·intro y0 y1 y2 y3 y4 y5 y6 y7 y8 y9
   unfold hinterlandref17_Enter.j1
   repeat' first
   | (with_reducible exact ih0 _ _ _ _ _ _ _ _ _ _)
   | (with_reducible exact ih1 _ _ _ _ _ _ _ _ _ _)
   | (with_reducible exact hinterlandref17_Validate.mono _ _ _ _ _ _ _)
   | (with_reducible exact hinterlandref17_choose.mono _ _ _ _ _ _ _ _)
   | (with_reducible exact hinterlandref17_taken.mono _ _ _ _ _ _ _ _ _ _)
   | (with_reducible exact LeO.refl _)
   | (with_reducible exact LeO.none _)
   | (with_reducible refine LeO.ite ?_ ?_)
   | (with_reducible refine LeO.bind ?_ (fun _ => ?_))
   | exact ih0 _ _ _ _ _ _ _ _ _ _
   | exact ih1 _ _ _ _ _ _ _ _ _ _
   | exact hinterlandref17_Validate.mono _ _ _ _ _ _ _
   | exact hinterlandref17_choose.mono _ _ _ _ _ _ _ _
   | exact hinterlandref17_taken.mono _ _ _ _ _ _ _ _ _ _
   | exact LeO.none _
   | refine LeO.ite ?_ ?_
   | refine LeO.bind ?_ (fun _ => ?_)
theorem hinterlandref17_Enter.mono : ∀ a0 a1 a2 a3 a4 a5 a6 a7 a8 k, LeO (hinterlandref17_Enter.f k a0 a1 a2 a3 a4 a5 a6 a7 a8) (hinterlandref17_Enter.f (k + 1) a0 a1 a2 a3 a4 a5 a6 a7 a8) := by
 intro a0 a1 a2 a3 a4 a5 a6 a7 a8 k
 obtain ⟨ih0,ih1⟩:=hinterlandref17_Enter.mono_l k
 unfold hinterlandref17_Enter.f
 repeat' first
   | (with_reducible exact ih0 _ _ _ _ _ _ _ _ _ _)
   | (with_reducible exact ih1 _ _ _ _ _ _ _ _ _ _)
   | (with_reducible exact hinterlandref17_Validate.mono _ _ _ _ _ _ _)
   | (with_reducible exact hinterlandref17_choose.mono _ _ _ _ _ _ _ _)
   | (with_reducible exact hinterlandref17_taken.mono _ _ _ _ _ _ _ _ _ _)
   | (with_reducible exact LeO.refl _)
   | (with_reducible exact LeO.none _)
   | (with_reducible refine LeO.ite ?_ ?_)
   | (with_reducible refine LeO.bind ?_ (fun _ => ?_))
   | exact ih0 _ _ _ _ _ _ _ _ _ _
   | exact ih1 _ _ _ _ _ _ _ _ _ _
   | exact hinterlandref17_Validate.mono _ _ _ _ _ _ _
   | exact hinterlandref17_choose.mono _ _ _ _ _ _ _ _
   | exact hinterlandref17_taken.mono _ _ _ _ _ _ _ _ _ _
   | exact LeO.none _
   | refine LeO.ite ?_ ?_
   | refine LeO.bind ?_ (fun _ => ?_)
set_option maxHeartbeats 8000000 in
set_option maxRecDepth 100000 in
theorem hinterlandref17_Enter.calls (k : Nat) (a0_0 : Int) (a0_1 : Int) (A0_2 : Option Addr) (c0_2 : Nat) (l0_2 : List Int) (A0_3 : Option Addr) (c0_3 : Nat) (l0_3 : List Int) (A0_4 : Option Addr) (c0_4 : Nat) (l0_4 : List Int) (A0_5 : Option Addr) (c0_5 : Nat) (l0_5 : List (S50)) (a1 : Int) (a2 : Int) (a3 : Int) (r1 : Int) (r2 : Int) (r3 : List Int) (r4 : List Int) (r5 : List Int) (r6 : List (S50)) (r7 : Int) (w : World) (hr0_2 : Kd.C (Kd.int .i64) w A0_2 l0_2.length l0_2) (hc0_2 : l0_2.length ≤ c0_2) (hr0_3 : Kd.C (Kd.int .i64) w A0_3 l0_3.length l0_3) (hc0_3 : l0_3.length ≤ c0_3) (hr0_4 : Kd.C (Kd.int .i64) w A0_4 l0_4.length l0_4) (hc0_4 : l0_4.length ≤ c0_4) (hr0_5 : Kd.C k50 w A0_5 l0_5.length l0_5) (hc0_5 : l0_5.length ≤ c0_5) (h : hinterlandref17_Enter.f k a0_0 a0_1 l0_2 l0_3 l0_4 l0_5 a1 a2 a3 = some (r1, r2, r3, r4, r5, r6, r7)) :
  Calls Try.prog 19 #[.agg #[.int .i64 a0_0,.int .i64 a0_1,.slice A0_2 l0_2.length c0_2,.slice A0_3 l0_3.length c0_3,.slice A0_4 l0_4.length c0_4,.slice A0_5 l0_5.length c0_5],.int .i64 a1,.int .i64 a2,.int .i64 a3] w fun e w' => ∃ v2_ v3_ v4_ v5_ : Value,e = .returned (.tuple #[.agg #[.int .i64 r1,.int .i64 r2,v2_,v3_,v4_,v5_],.int .i64 r7]) ∧ Kd.R (Kd.int .i64) 3 w' w.heap.size (fun k_ => some k_ ≠ (v3_ : Value).ownBlock ∧ some k_ ≠ (v4_ : Value).ownBlock) v2_ r3 ∧ Kd.R (Kd.int .i64) 3 w' w.heap.size (fun k_ => some k_ ≠ (v2_ : Value).ownBlock ∧ some k_ ≠ (v4_ : Value).ownBlock) v3_ r4 ∧ Kd.R (Kd.int .i64) 3 w' w.heap.size (fun k_ => some k_ ≠ (v2_ : Value).ownBlock ∧ some k_ ≠ (v3_ : Value).ownBlock) v4_ r5 ∧ Kd.R k50 50 w' w.heap.size (fun _ => True) v5_ r6 ∧ Below w.heap.size w w':=by
 have hu33:=Try.underlying33
 have hu24:=Try.underlying24
 have hu50:=Try.underlying50
 have HR0_2:=Aside0.mk hr0_2
 have HC0_2:=Aside0.mk hc0_2
 clear hr0_2 hc0_2
 have HR0_3:=Aside0.mk hr0_3
 have HC0_3:=Aside0.mk hc0_3
 clear hr0_3 hc0_3
 have HR0_4:=Aside0.mk hr0_4
 have HC0_4:=Aside0.mk hc0_4
 clear hr0_4 hc0_4
 have HR0_5:=Aside0.mk hr0_5
 have HC0_5:=Aside0.mk hc0_5
 clear hr0_5 hc0_5
 have HB:=Aside0.mk (Below.refl w.heap.size w)
 have H : ((hinterlandref17_Validate.f k a0_0 a0_1 l0_2 l0_3 l0_4 l0_5).bind fun t311 => (if t311 = 0 then (if a1 < 0 then (hinterlandref17_Enter.j0 k a1 a2 a3 true a0_0 a0_1 l0_2 l0_3 l0_4 l0_5) else (hinterlandref17_Enter.j0 k a1 a2 a3 (decide (a1 ≥ (l0_5.length : Int))) a0_0 a0_1 l0_2 l0_3 l0_4 l0_5)) else (some (0,0,([] : List Int),([] : List Int),([] : List Int),([] : List (S50)),t311)))) = some (r1,r2,r3,r4,r5,r6,r7):=h
 clear h
 replace H:=Option.bind_eq_some_iff.mp H
 obtain ⟨t311,A50,H⟩:=H
 replace H : (if t311 = 0 then (if a1 < 0 then (hinterlandref17_Enter.j0 k a1 a2 a3 true a0_0 a0_1 l0_2 l0_3 l0_4 l0_5) else (hinterlandref17_Enter.j0 k a1 a2 a3 (decide (a1 ≥ (l0_5.length : Int))) a0_0 a0_1 l0_2 l0_3 l0_4 l0_5)) else (some (0,0,([] : List Int),([] : List Int),([] : List Int),([] : List (S50)),t311))) = some (r1,r2,r3,r4,r5,r6,r7):=H
 have A5:=Aside0.mk A50
 clear A50
 by_cases c6 : t311 = 0
 rotate_left
 ·rw [if_neg c6] at H
  have c6b0:=bqf c6
  have c6b1:=bnt c6
  simp only [Option.some.injEq,Prod.mk.injEq] at H
  obtain ⟨rfl,rfl,rfl,rfl,rfl,rfl,rfl⟩:=H
  go_enter Try.func19,Try.ntmps19
  go_wp2_with (first|((with_reducible refine gate_dst (N:=4) rfl ?_);(try (refine gate_guard (by rfl) ?_;dsimp only));refine box_ev (N:=4) (cs:=#[.int .i64 a0_0,.int .i64 a0_1,.slice A0_2 l0_2.length c0_2,.slice A0_3 l0_3.length c0_3,.slice A0_4 l0_4.length c0_4,.slice A0_5 l0_5.length c0_5]) (t:=33) ?_;intro gb309 hg w70 hbox hb;have BK309:=Aside0.mk (hbox);have GW309 : Aside0 (w.heap.size ≤ gb309):=gsz hg;have GE309:=GW309;replace HB:=hbs hb;clear hb hbox hg)|((with_reducible refine gate_dst (N:=8) rfl ?_);(try (refine gate_guard (by rfl) ?_;dsimp only));refine box_ev (N:=8) (cs:=#[.int .i64 0,.int .i64 0,.slice none 0 0,.slice none 0 0,.slice none 0 0,.slice none 0 0]) (t:=33) ?_;intro gb310 hg w71 hbox hb;have BK310:=Aside0.mk (hbox);have GW310 : Aside0 (w.heap.size ≤ gb310):=gsz hg;have GE310:=GW310;have NB309_310:=nbl BK309 hg;have NB310_309:=nbr BK309 hg;replace BK309:=bkb BK309 hb;replace HB:=hbs hb;clear hb hbox hg;have hnb72:=NB309_310.out;have hnc72:=NB310_309.out;obtain ⟨_,_,_,_,_,_,_,_,_,_,_,_⟩:=cells6 BK309.out)|((with_reducible refine gate_callee (f:=17) rfl ?_);refine goesL_ (some 14) rfl rfl Try.func17 (by kernel_rfl) rfl #[.agg #[.int .i64 a0_0,.int .i64 a0_1,.slice A0_2 l0_2.length c0_2,.slice A0_3 l0_3.length c0_3,.slice A0_4 l0_4.length c0_4,.slice A0_5 l0_5.length c0_5]] rfl ga_ ?_;(with_reducible refine (hinterlandref17_Validate.calls k a0_0 a0_1 _ _ l0_2 _ _ l0_3 _ _ l0_4 _ _ l0_5 t311 _ ?_ ?_ ?_ ?_ ?_ ?_ ?_ ?_ A5.out).mono ?_);exact cq HR0_2;exact HC0_2.out;exact cq HR0_3;exact HC0_3.out;exact cq HR0_4;exact HC0_4.out;exact cq HR0_5;exact HC0_5.out;rintro e w74 ⟨rfl,hb⟩;refine ⟨_,rfl,?_⟩;replace BK309:=bkb BK309 hb;replace BK310:=bkb BK310 hb;replace HB:=hbs hb;obtain ⟨_,_,_,_,_,_,_,_,_,_,_,_⟩:=cells6 BK310.out))
  refine bodyPost_ret (results_ct rfl _ _ gb310 33 #[.int .i64 0,.int .i64 0,.slice none 0 0,.slice none 0 0,.slice none 0 0,.slice none 0 0] (0,0) _ rfl (by (with_reducible repeat (first|refine blk_drewN ?_ _|refine blk_drew ?_|refine blk_alloc ?_ _));exact blk_puts6 (blk_up BK310.out)) Try.underlying33 rfl (by kernel_rfl)) rfl ?_
  exact ⟨_,_,_,_,er_,nl_,nl_,nl_,nl_,hb_⟩
 rw [if_pos c6] at H
 have c6b0:=bqt c6
 have c6b1:=bnf c6
 clear c6
 have HC7:=Aside0.mk H
 clear H
 go_enter Try.func19,Try.ntmps19
 go_upto_region 4 with (first|((with_reducible refine gate_dst (N:=4) rfl ?_);(try (refine gate_guard (by rfl) ?_;dsimp only));refine box_ev (N:=4) (cs:=#[.int .i64 a0_0,.int .i64 a0_1,.slice A0_2 l0_2.length c0_2,.slice A0_3 l0_3.length c0_3,.slice A0_4 l0_4.length c0_4,.slice A0_5 l0_5.length c0_5]) (t:=33) ?_;intro gb309 hg w8 hbox hb;have BK309:=Aside0.mk (hbox);have GW309 : Aside0 (w.heap.size ≤ gb309):=gsz hg;have GE309:=GW309;replace HB:=hbs hb;clear hb hbox hg)|((with_reducible refine gate_dst (N:=8) rfl ?_);(try (refine gate_guard (by rfl) ?_;dsimp only));refine box_ev (N:=8) (cs:=#[.int .i64 0,.int .i64 0,.slice none 0 0,.slice none 0 0,.slice none 0 0,.slice none 0 0]) (t:=33) ?_;intro gb310 hg w9 hbox hb;have BK310:=Aside0.mk (hbox);have GW310 : Aside0 (w.heap.size ≤ gb310):=gsz hg;have GE310:=GW310;have NB309_310:=nbl BK309 hg;have NB310_309:=nbr BK309 hg;replace BK309:=bkb BK309 hb;replace HB:=hbs hb;clear hb hbox hg;have hnb10:=NB309_310.out;have hnc10:=NB310_309.out;obtain ⟨_,_,_,_,_,_,_,_,_,_,_,_⟩:=cells6 BK309.out)|((with_reducible refine gate_callee (f:=17) rfl ?_);refine goesL_ (some 14) rfl rfl Try.func17 (by kernel_rfl) rfl #[.agg #[.int .i64 a0_0,.int .i64 a0_1,.slice A0_2 l0_2.length c0_2,.slice A0_3 l0_3.length c0_3,.slice A0_4 l0_4.length c0_4,.slice A0_5 l0_5.length c0_5]] rfl ga_ ?_;(with_reducible refine (hinterlandref17_Validate.calls k a0_0 a0_1 _ _ l0_2 _ _ l0_3 _ _ l0_4 _ _ l0_5 t311 _ ?_ ?_ ?_ ?_ ?_ ?_ ?_ ?_ A5.out).mono ?_);exact cq HR0_2;exact HC0_2.out;exact cq HR0_3;exact HC0_3.out;exact cq HR0_4;exact HC0_4.out;exact cq HR0_5;exact HC0_5.out;rintro e w12 ⟨rfl,hb⟩;refine ⟨_,rfl,?_⟩;replace BK309:=bkb BK309 hb;replace BK310:=bkb BK310 hb;replace HB:=hbs hb))
 (try simp only [Act.put,List.setIfInBounds_toArray,List.set_cons_zero,List.set_cons_succ])
 go_cut [27] (fun v27 wc => ∃ (kq : Nat) (x27_6 : Bool),v27 = .bool x27_6 ∧ Aside0 (hinterlandref17_Enter.j0 kq a1 a2 a3 x27_6 a0_0 a0_1 l0_2 l0_3 l0_4 l0_5 = some (r1,r2,r3,r4,r5,r6,r7)) ∧ Aside0 (kq ≤ k) ∧ Aside0 (wc.heap[gb309]? = some (.cells #[.int .i64 a0_0,.int .i64 a0_1,(.slice A0_2 l0_2.length c0_2),(.slice A0_3 l0_3.length c0_3),(.slice A0_4 l0_4.length c0_4),(.slice A0_5 l0_5.length c0_5)] 33 (0,0))) ∧ Aside0 (wc.heap[gb310]? = some (.cells #[.int .i64 0,.int .i64 0,(.slice none 0 0),(.slice none 0 0),(.slice none 0 0),(.slice none 0 0)] 33 (0,0))) ∧ Aside0 (Below w.heap.size w wc))
 case first =>
  have H:=HC7.out
  clear HC7
  by_cases c13 : a1 < 0
  ·rw [if_pos c13] at H
   have c13b0 : decide (a1 < 0) = true:=decide_eq_true c13
   clear c13
   (first|rw [c13b0]|(simp only [i64_w,i32_w];rw [c13b0])|skip)
   have H':=Aside0.mk H
   clear H
   go_wp2
   go_meet
   case rel => exact ⟨_,(true),(by first|rfl|(simp;done)|(simp [*];done)),H',⟨by first|omega|exact Nat.le_refl _⟩,⟨blk_up BK309.out⟩,⟨blk_up BK310.out⟩,⟨hb_⟩⟩
  ·rw [if_neg c13] at H
   have c13b0 : decide (a1 < 0) = false:=decide_eq_false c13
   clear c13
   (first|rw [c13b0]|(simp only [i64_w,i32_w];rw [c13b0])|skip)
   have H':=Aside0.mk H
   clear H
   have hnb14:=NB309_310.out
   have hnc14:=NB310_309.out
   obtain ⟨_,_,_,_,_,_,_,_,_,_,_,_⟩:=cells6 BK309.out
   go_wp2
   go_meet
   case rel => exact ⟨_,(decide (a1 ≥ (l0_5.length : Int))),(by first|rfl|(simp;done)|(simp [*];done)),H',⟨by first|omega|exact Nat.le_refl _⟩,⟨blk_up BK309.out⟩,⟨blk_up BK310.out⟩,⟨hb_⟩⟩
 case rest =>
  clear HC7
  obtain ⟨kq,x27_6,rfl,HA,HJ6,BK309,BK310,HB⟩:=hcut
  cases kq with
  | zero => exact absurd HA.out (by simp [hinterlandref17_Enter.j0])
  | succ kj6 =>
   have H:=HA.out
   clear HA
   simp only [hinterlandref17_Enter.j0] at H
   by_cases c16 : x27_6 = true
   ·subst c16
    have H1 : (some (0,0,([] : List Int),([] : List Int),([] : List Int),([] : List (S50)),2)) = some (r1,r2,r3,r4,r5,r6,r7):=by rw [if_pos rfl] at H;exact H
    clear H
    have H:=H1
    clear H1
    simp only [Option.some.injEq,Prod.mk.injEq] at H
    obtain ⟨rfl,rfl,rfl,rfl,rfl,rfl,rfl⟩:=H
    have hnb17:=NB310_309.out
    have hnc17:=NB309_310.out
    obtain ⟨_,_,_,_,_,_,_,_,_,_,_,_⟩:=cells6 BK310.out
    go_wp2
    refine bodyPost_ret (results_ct rfl _ _ gb310 33 #[.int .i64 0,.int .i64 0,.slice none 0 0,.slice none 0 0,.slice none 0 0,.slice none 0 0] (0,0) _ rfl (by (with_reducible repeat (first|refine blk_drewN ?_ _|refine blk_drew ?_|refine blk_alloc ?_ _));exact blk_puts6 (blk_up BK310.out)) Try.underlying33 rfl (by kernel_rfl)) rfl ?_
    exact ⟨_,_,_,_,er_,nl_,nl_,nl_,nl_,hb_⟩
   ·replace c16:=Bool.eq_false_iff.mpr c16
    subst c16
    have H1 : (if 0 ≤ a1 then (if a1 < (l0_5.length : Int) then (if ((rd_T50 l0_5 a1).f0) = (-1) then (if a2 < 0 then (hinterlandref17_Enter.j1 kj6 a1 a2 a3 true a0_0 a0_1 l0_2 l0_3 l0_4 l0_5) else (hinterlandref17_Enter.j1 kj6 a1 a2 a3 (decide (a2 ≥ (l0_2.length : Int))) a0_0 a0_1 l0_2 l0_3 l0_4 l0_5)) else (some (0,0,([] : List Int),([] : List Int),([] : List Int),([] : List (S50)),13))) else (none)) else (none)) = some (r1,r2,r3,r4,r5,r6,r7):=by rw [if_neg (show ¬ (false = true) by decide)] at H;exact H
    clear H
    have H:=H1
    clear H1
    replace H:=ifp_ H;obtain ⟨c19,H⟩:=H
    have c19b0 : decide (0 ≤ a1) = true:=decide_eq_true c19
    clear c19
    replace H:=ifp_ H;obtain ⟨c20,H⟩:=H
    have c20b0 : decide (a1 < (l0_5.length : Int)) = true:=decide_eq_true c20
    clear c20
    by_cases c21 : ((rd_T50 l0_5 a1).f0) = (-1)
    rotate_left
    ·rw [if_neg c21] at H
     have c21b0:=bqf c21
     have c21b1:=bnt c21
     simp only [Option.some.injEq,Prod.mk.injEq] at H
     obtain ⟨rfl,rfl,rfl,rfl,rfl,rfl,rfl⟩:=H
     have hnb67:=NB309_310.out
     have hnc67:=NB310_309.out
     obtain ⟨_,_,_,_,_,_,_,_,_,_,_,_⟩:=cells6 BK309.out
     have p312 : 0 ≤ (a1 : Int):=of_decide_eq_true (by first|(with_reducible assumption)|assumption)
     have q312 : a1 < (l0_5.length : Int):=of_decide_eq_true (by first|(with_reducible assumption)|assumption)
     obtain ⟨ad312,e312,hx312_0,hx312_1,hx312_2,hx312_3,hx312_4⟩:=at_T50 HR0_5.out a1 p312 q312
     cases e312
     replace hx312_0:=(HB.out.cell (World.block_lt_of_cell? w _ hx312_0)).trans hx312_0
     replace hx312_1:=(HB.out.cell (World.block_lt_of_cell? w _ hx312_1)).trans hx312_1
     replace hx312_2:=(HB.out.cell (World.block_lt_of_cell? w _ hx312_2)).trans hx312_2
     replace hx312_3:=(HB.out.cell (World.block_lt_of_cell? w _ hx312_3)).trans hx312_3
     replace hx312_4:=(HB.out.cell (World.block_lt_of_cell? w _ hx312_4)).trans hx312_4
     replace p312:=eq_true p312
     replace q312:=eq_true q312
     obtain ⟨_,_,_,_,_,_,_,_,_,_,_,_⟩:=cells6 BK310.out
     go_wp2
     refine bodyPost_ret (results_ct rfl _ _ gb310 33 #[.int .i64 0,.int .i64 0,.slice none 0 0,.slice none 0 0,.slice none 0 0,.slice none 0 0] (0,0) _ rfl (by (with_reducible repeat (first|refine blk_drewN ?_ _|refine blk_drew ?_|refine blk_alloc ?_ _));exact blk_puts6 (blk_up BK310.out)) Try.underlying33 rfl (by kernel_rfl)) rfl ?_
     exact ⟨_,_,_,_,er_,nl_,nl_,nl_,nl_,hb_⟩
    rw [if_pos c21] at H
    have c21b0:=bqt c21
    have c21b1:=bnf c21
    clear c21
    have HC22:=Aside0.mk H
    clear H
    have hnb23:=NB309_310.out
    have hnc23:=NB310_309.out
    obtain ⟨_,_,_,_,_,_,_,_,_,_,_,_⟩:=cells6 BK309.out
    have p312 : 0 ≤ (a1 : Int):=of_decide_eq_true (by first|(with_reducible assumption)|assumption)
    have q312 : a1 < (l0_5.length : Int):=of_decide_eq_true (by first|(with_reducible assumption)|assumption)
    obtain ⟨ad312,e312,hx312_0,hx312_1,hx312_2,hx312_3,hx312_4⟩:=at_T50 HR0_5.out a1 p312 q312
    cases e312
    replace hx312_0:=(HB.out.cell (World.block_lt_of_cell? w _ hx312_0)).trans hx312_0
    replace hx312_1:=(HB.out.cell (World.block_lt_of_cell? w _ hx312_1)).trans hx312_1
    replace hx312_2:=(HB.out.cell (World.block_lt_of_cell? w _ hx312_2)).trans hx312_2
    replace hx312_3:=(HB.out.cell (World.block_lt_of_cell? w _ hx312_3)).trans hx312_3
    replace hx312_4:=(HB.out.cell (World.block_lt_of_cell? w _ hx312_4)).trans hx312_4
    replace p312:=eq_true p312
    replace q312:=eq_true q312
    go_upto_region 8 with (fail)
    go_cut [46] (fun v46 wc => ∃ (kq : Nat) (x46_21 : Bool),v46 = .bool x46_21 ∧ Aside0 (hinterlandref17_Enter.j1 kq a1 a2 a3 x46_21 a0_0 a0_1 l0_2 l0_3 l0_4 l0_5 = some (r1,r2,r3,r4,r5,r6,r7)) ∧ Aside0 (kq ≤ kj6) ∧ Aside0 (wc.heap[gb309]? = some (.cells #[.int .i64 a0_0,.int .i64 a0_1,(.slice A0_2 l0_2.length c0_2),(.slice A0_3 l0_3.length c0_3),(.slice A0_4 l0_4.length c0_4),(.slice (some ad312) l0_5.length c0_5)] 33 (0,0))) ∧ Aside0 (wc.heap[gb310]? = some (.cells #[.int .i64 0,.int .i64 0,(.slice none 0 0),(.slice none 0 0),(.slice none 0 0),(.slice none 0 0)] 33 (0,0))) ∧ Aside0 (Below w.heap.size w wc))
    case first =>
     have H:=HC22.out
     clear HC22
     by_cases c25 : a2 < 0
     ·rw [if_pos c25] at H
      have c25b0 : decide (a2 < 0) = true:=decide_eq_true c25
      clear c25
      (first|rw [c25b0]|(simp only [i64_w,i32_w];rw [c25b0])|skip)
      have H':=Aside0.mk H
      clear H
      go_wp2
      go_meet
      case rel => exact ⟨_,(true),(by first|rfl|(simp;done)|(simp [*];done)),H',⟨by have:=HJ6.out;first|omega|exact Nat.le_refl _⟩,⟨blk_up BK309.out⟩,⟨blk_up BK310.out⟩,⟨hb_⟩⟩
     ·rw [if_neg c25] at H
      have c25b0 : decide (a2 < 0) = false:=decide_eq_false c25
      clear c25
      (first|rw [c25b0]|(simp only [i64_w,i32_w];rw [c25b0])|skip)
      have H':=Aside0.mk H
      clear H
      have hnb26:=NB309_310.out
      have hnc26:=NB310_309.out
      obtain ⟨_,_,_,_,_,_,_,_,_,_,_,_⟩:=cells6 BK309.out
      go_wp2
      go_meet
      case rel => exact ⟨_,(decide (a2 ≥ (l0_2.length : Int))),(by first|rfl|(simp;done)|(simp [*];done)),H',⟨by have:=HJ6.out;first|omega|exact Nat.le_refl _⟩,⟨blk_up BK309.out⟩,⟨blk_up BK310.out⟩,⟨hb_⟩⟩
    case rest =>
     clear HC22
     obtain ⟨kq,x46_21,rfl,HA,HJ21,BK309,BK310,HB⟩:=hcut
     cases kq with
     | zero => exact absurd HA.out (by simp [hinterlandref17_Enter.j1])
     | succ kj21 =>
      have H:=HA.out
      clear HA
      simp only [hinterlandref17_Enter.j1] at H
      by_cases c28 : x46_21 = true
      ·subst c28
       have H1 : (some (0,0,([] : List Int),([] : List Int),([] : List Int),([] : List (S50)),2)) = some (r1,r2,r3,r4,r5,r6,r7):=by rw [if_pos rfl] at H;exact H
       clear H
       have H:=H1
       clear H1
       simp only [Option.some.injEq,Prod.mk.injEq] at H
       obtain ⟨rfl,rfl,rfl,rfl,rfl,rfl,rfl⟩:=H
       have hnb29:=NB310_309.out
       have hnc29:=NB309_310.out
       obtain ⟨_,_,_,_,_,_,_,_,_,_,_,_⟩:=cells6 BK310.out
       go_wp2
       refine bodyPost_ret (results_ct rfl _ _ gb310 33 #[.int .i64 0,.int .i64 0,.slice none 0 0,.slice none 0 0,.slice none 0 0,.slice none 0 0] (0,0) _ rfl (by (with_reducible repeat (first|refine blk_drewN ?_ _|refine blk_drew ?_|refine blk_alloc ?_ _));exact blk_puts6 (blk_up BK310.out)) Try.underlying33 rfl (by kernel_rfl)) rfl ?_
       exact ⟨_,_,_,_,er_,nl_,nl_,nl_,nl_,hb_⟩
      ·replace c28:=Bool.eq_false_iff.mpr c28
       subst c28
       have H1 : ((hinterlandref17_choose.f kj21 a0_0 a0_1 l0_2 l0_3 a2 (-1) a3).bind fun bt313 => (if bt313.2 = true then ((hinterlandref17_taken.f kj21 a0_0 a0_1 l0_2 l0_3 l0_4 l0_5 a1 a2 bt313.1).bind fun t315 => (if t315 = true then (some (0,0,([] : List Int),([] : List Int),([] : List Int),([] : List (S50)),7)) else ((hinterlandref17_Copy.f a0_0 a0_1 l0_2 l0_3 l0_4 l0_5).bind fun bt316 => (if 0 ≤ a1 then (if a1 < (bt316.2.2.2.2.2.length : Int) then (some (bt316.1,bt316.2.1,bt316.2.2.1,bt316.2.2.2.1,bt316.2.2.2.2.1,(bt316.2.2.2.2.2.set (a1 : Int).toNat (⟨a2,(-1),bt313.1,0,0⟩ : S50)),0)) else (none)) else (none))))) else (some (0,0,([] : List Int),([] : List Int),([] : List Int),([] : List (S50)),2)))) = some (r1,r2,r3,r4,r5,r6,r7):=by rw [if_neg (show ¬ (false = true) by decide)] at H;exact H
       clear H
       have H:=H1
       clear H1
       replace H:=Option.bind_eq_some_iff.mp H
       obtain ⟨⟨t313,t314⟩,A310,H⟩:=H
       replace H : (if t314 = true then ((hinterlandref17_taken.f kj21 a0_0 a0_1 l0_2 l0_3 l0_4 l0_5 a1 a2 t313).bind fun t315 => (if t315 = true then (some (0,0,([] : List Int),([] : List Int),([] : List Int),([] : List (S50)),7)) else ((hinterlandref17_Copy.f a0_0 a0_1 l0_2 l0_3 l0_4 l0_5).bind fun bt316 => (if 0 ≤ a1 then (if a1 < (bt316.2.2.2.2.2.length : Int) then (some (bt316.1,bt316.2.1,bt316.2.2.1,bt316.2.2.2.1,bt316.2.2.2.2.1,(bt316.2.2.2.2.2.set (a1 : Int).toNat (⟨a2,(-1),t313,0,0⟩ : S50)),0)) else (none)) else (none))))) else (some (0,0,([] : List Int),([] : List Int),([] : List Int),([] : List (S50)),2))) = some (r1,r2,r3,r4,r5,r6,r7):=H
       have A31:=Aside0.mk A310
       clear A310
       by_cases c32 : t314 = true
       ·subst c32
        have H1 : ((hinterlandref17_taken.f kj21 a0_0 a0_1 l0_2 l0_3 l0_4 l0_5 a1 a2 t313).bind fun t315 => (if t315 = true then (some (0,0,([] : List Int),([] : List Int),([] : List Int),([] : List (S50)),7)) else ((hinterlandref17_Copy.f a0_0 a0_1 l0_2 l0_3 l0_4 l0_5).bind fun bt316 => (if 0 ≤ a1 then (if a1 < (bt316.2.2.2.2.2.length : Int) then (some (bt316.1,bt316.2.1,bt316.2.2.1,bt316.2.2.2.1,bt316.2.2.2.2.1,(bt316.2.2.2.2.2.set (a1 : Int).toNat (⟨a2,(-1),t313,0,0⟩ : S50)),0)) else (none)) else (none))))) = some (r1,r2,r3,r4,r5,r6,r7):=by rw [if_pos rfl] at H;exact H
        clear H
        have H:=H1
        clear H1
        replace H:=Option.bind_eq_some_iff.mp H
        obtain ⟨t315,A330,H⟩:=H
        replace H : (if t315 = true then (some (0,0,([] : List Int),([] : List Int),([] : List Int),([] : List (S50)),7)) else ((hinterlandref17_Copy.f a0_0 a0_1 l0_2 l0_3 l0_4 l0_5).bind fun bt316 => (if 0 ≤ a1 then (if a1 < (bt316.2.2.2.2.2.length : Int) then (some (bt316.1,bt316.2.1,bt316.2.2.1,bt316.2.2.2.1,bt316.2.2.2.2.1,(bt316.2.2.2.2.2.set (a1 : Int).toNat (⟨a2,(-1),t313,0,0⟩ : S50)),0)) else (none)) else (none)))) = some (r1,r2,r3,r4,r5,r6,r7):=H
        have A33:=Aside0.mk A330
        clear A330
        by_cases c34 : t315 = true
        ·subst c34
         have H1 : (some (0,0,([] : List Int),([] : List Int),([] : List Int),([] : List (S50)),7)) = some (r1,r2,r3,r4,r5,r6,r7):=by rw [if_pos rfl] at H;exact H
         clear H
         have H:=H1
         clear H1
         simp only [Option.some.injEq,Prod.mk.injEq] at H
         obtain ⟨rfl,rfl,rfl,rfl,rfl,rfl,rfl⟩:=H
         have hnb35:=NB309_310.out
         have hnc35:=NB310_309.out
         obtain ⟨_,_,_,_,_,_,_,_,_,_,_,_⟩:=cells6 BK309.out
         go_wp2_with (first|((with_reducible refine gate_callee (f:=35) rfl ?_);refine goesL_ (some 53) rfl rfl Try.func35 (by kernel_rfl) rfl #[.agg #[.int .i64 a0_0,.int .i64 a0_1,.slice A0_2 l0_2.length c0_2,.slice A0_3 l0_3.length c0_3],.int .i64 a2,.int .i64 (-1),.int .i64 a3] rfl ga_ ?_;(with_reducible refine (hinterlandref17_choose.calls kj21 a0_0 a0_1 _ _ l0_2 _ _ l0_3 a2 (-1) a3 t313 true _ ?_ ?_ ?_ ?_ A31.out).mono ?_);exact cq HR0_2;exact HC0_2.out;exact cq HR0_3;exact HC0_3.out;rintro e w37 ⟨rfl,hb⟩;refine ⟨_,rfl,?_⟩;replace BK309:=bkb BK309 hb;replace BK310:=bkb BK310 hb;replace HB:=hbs hb;obtain ⟨_,_,_,_,_,_,_,_,_,_,_,_⟩:=cells6 BK309.out)|((with_reducible refine gate_callee (f:=41) rfl ?_);refine goesL_ (some 63) rfl rfl Try.func41 (by kernel_rfl) rfl #[.agg #[.int .i64 a0_0,.int .i64 a0_1,.slice A0_2 l0_2.length c0_2,.slice A0_3 l0_3.length c0_3,.slice A0_4 l0_4.length c0_4,.slice (some ad312) l0_5.length c0_5],.int .i64 a1,.int .i64 a2,.int .i64 t313] rfl ga_ ?_;(with_reducible refine (hinterlandref17_taken.calls kj21 a0_0 a0_1 _ _ l0_2 _ _ l0_3 _ _ l0_4 _ _ l0_5 a1 a2 t313 true _ ?_ ?_ ?_ ?_ ?_ ?_ ?_ ?_ A33.out).mono ?_);exact cq HR0_2;exact HC0_2.out;exact cq HR0_3;exact HC0_3.out;exact cq HR0_4;exact HC0_4.out;exact cq HR0_5;exact HC0_5.out;rintro e w39 ⟨rfl,hb⟩;refine ⟨_,rfl,?_⟩;replace BK309:=bkb BK309 hb;replace BK310:=bkb BK310 hb;replace HB:=hbs hb;obtain ⟨_,_,_,_,_,_,_,_,_,_,_,_⟩:=cells6 BK310.out))
         refine bodyPost_ret (results_ct rfl _ _ gb310 33 #[.int .i64 0,.int .i64 0,.slice none 0 0,.slice none 0 0,.slice none 0 0,.slice none 0 0] (0,0) _ rfl (by (with_reducible repeat (first|refine blk_drewN ?_ _|refine blk_drew ?_|refine blk_alloc ?_ _));exact blk_puts6 (blk_up BK310.out)) Try.underlying33 rfl (by kernel_rfl)) rfl ?_
         exact ⟨_,_,_,_,er_,nl_,nl_,nl_,nl_,hb_⟩
        ·replace c34:=Bool.eq_false_iff.mpr c34
         subst c34
         have H1 : ((hinterlandref17_Copy.f a0_0 a0_1 l0_2 l0_3 l0_4 l0_5).bind fun bt316 => (if 0 ≤ a1 then (if a1 < (bt316.2.2.2.2.2.length : Int) then (some (bt316.1,bt316.2.1,bt316.2.2.1,bt316.2.2.2.1,bt316.2.2.2.2.1,(bt316.2.2.2.2.2.set (a1 : Int).toNat (⟨a2,(-1),t313,0,0⟩ : S50)),0)) else (none)) else (none))) = some (r1,r2,r3,r4,r5,r6,r7):=by rw [if_neg (show ¬ (false = true) by decide)] at H;exact H
         clear H
         have H:=H1
         clear H1
         replace H:=Option.bind_eq_some_iff.mp H
         obtain ⟨⟨t316,t317,t318,t321,t324,t327⟩,A410,H⟩:=H
         replace H : (if 0 ≤ a1 then (if a1 < (t327.length : Int) then (some (t316,t317,t318,t321,t324,(t327.set (a1 : Int).toNat (⟨a2,(-1),t313,0,0⟩ : S50)),0)) else (none)) else (none)) = some (r1,r2,r3,r4,r5,r6,r7):=H
         have A41:=Aside0.mk A410
         clear A410
         replace H:=ifp_ H;obtain ⟨c42,H⟩:=H
         have c42b0 : decide (0 ≤ a1) = true:=decide_eq_true c42
         clear c42
         replace H:=ifp_ H;obtain ⟨c43,H⟩:=H
         have c43b0 : decide (a1 < (t327.length : Int)) = true:=decide_eq_true c43
         clear c43
         obtain ⟨y330,hy330⟩ : ∃ y_ : List (S50),y_ = (t327.set (a1 : Int).toNat (⟨a2,(-1),t313,0,0⟩ : S50)):=⟨_,rfl⟩
         replace H : (some (t316,t317,t318,t321,t324,y330,0)) = some (r1,r2,r3,r4,r5,r6,r7):=by first|(rw [hy330];with_reducible exact H)|(have H2_:=(Option.bind_some _ _).symm.trans H;rw [hy330];with_reducible exact H2_)|(have H2_:=(Option.bind_some _ _).symm.trans H;with_reducible exact H2_)|with_reducible exact H|(rw [hy330];exact H)|exact H
         have Ny330:=Aside0.mk hy330
         clear hy330
         simp only [Option.some.injEq,Prod.mk.injEq] at H
         obtain ⟨rfl,rfl,rfl,rfl,rfl,rfl,rfl⟩:=H
         have hnb45:=NB309_310.out
         have hnc45:=NB310_309.out
         obtain ⟨_,_,_,_,_,_,_,_,_,_,_,_⟩:=cells6 BK309.out
         go_wp2_with (first|((with_reducible refine gate_callee (f:=35) rfl ?_);refine goesL_ (some 53) rfl rfl Try.func35 (by kernel_rfl) rfl #[.agg #[.int .i64 a0_0,.int .i64 a0_1,.slice A0_2 l0_2.length c0_2,.slice A0_3 l0_3.length c0_3],.int .i64 a2,.int .i64 (-1),.int .i64 a3] rfl ga_ ?_;(with_reducible refine (hinterlandref17_choose.calls kj21 a0_0 a0_1 _ _ l0_2 _ _ l0_3 a2 (-1) a3 t313 true _ ?_ ?_ ?_ ?_ A31.out).mono ?_);exact cq HR0_2;exact HC0_2.out;exact cq HR0_3;exact HC0_3.out;rintro e w47 ⟨rfl,hb⟩;refine ⟨_,rfl,?_⟩;replace BK309:=bkb BK309 hb;replace BK310:=bkb BK310 hb;replace HB:=hbs hb;obtain ⟨_,_,_,_,_,_,_,_,_,_,_,_⟩:=cells6 BK309.out)|((with_reducible refine gate_callee (f:=41) rfl ?_);refine goesL_ (some 63) rfl rfl Try.func41 (by kernel_rfl) rfl #[.agg #[.int .i64 a0_0,.int .i64 a0_1,.slice A0_2 l0_2.length c0_2,.slice A0_3 l0_3.length c0_3,.slice A0_4 l0_4.length c0_4,.slice (some ad312) l0_5.length c0_5],.int .i64 a1,.int .i64 a2,.int .i64 t313] rfl ga_ ?_;(with_reducible refine (hinterlandref17_taken.calls kj21 a0_0 a0_1 _ _ l0_2 _ _ l0_3 _ _ l0_4 _ _ l0_5 a1 a2 t313 false _ ?_ ?_ ?_ ?_ ?_ ?_ ?_ ?_ A33.out).mono ?_);exact cq HR0_2;exact HC0_2.out;exact cq HR0_3;exact HC0_3.out;exact cq HR0_4;exact HC0_4.out;exact cq HR0_5;exact HC0_5.out;rintro e w49 ⟨rfl,hb⟩;refine ⟨_,rfl,?_⟩;replace BK309:=bkb BK309 hb;replace BK310:=bkb BK310 hb;replace HB:=hbs hb;obtain ⟨_,_,_,_,_,_,_,_,_,_,_,_⟩:=cells6 BK309.out)|((with_reducible refine gate_callee (f:=44) rfl ?_);refine goesL_ (some 66) rfl rfl Try.func44 (by kernel_rfl) rfl #[.agg #[.int .i64 a0_0,.int .i64 a0_1,.slice A0_2 l0_2.length c0_2,.slice A0_3 l0_3.length c0_3,.slice A0_4 l0_4.length c0_4,.slice (some ad312) l0_5.length c0_5]] rfl ga_ ?_;(with_reducible refine (hinterlandref17_Copy.calls a0_0 a0_1 _ _ l0_2 _ _ l0_3 _ _ l0_4 _ _ l0_5 t316 t317 t318 t321 t324 t327 _ ?_ ?_ ?_ ?_ ?_ ?_ ?_ ?_ A41.out).mono ?_);exact cq HR0_2;exact HC0_2.out;exact cq HR0_3;exact HC0_3.out;exact cq HR0_4;exact HC0_4.out;exact cq HR0_5;exact HC0_5.out;rintro e w51 ⟨v319,v322,v325,v328,rfl,ho0,ho1,ho2,ho3,hb⟩;refine ⟨_,rfl,?_⟩;have HO320:=rlo ho0;have HO323:=rlo ho1;have HO326:=rlo ho2;have HO329:=rlo ho3;replace BK309:=bkb BK309 hb;replace BK310:=bkb BK310 hb;replace HB:=hbs hb;obtain ⟨_,_,_,_,_,_,_,_,_,_,_,_⟩:=cells6 BK309.out;obtain ⟨Ao53,co53,eo53⟩:=Kd.R_slice HO320.out;subst eo53;obtain ⟨Ao54,co54,eo54⟩:=Kd.R_slice HO323.out;subst eo54;obtain ⟨Ao55,co55,eo55⟩:=Kd.R_slice HO326.out;subst eo55;obtain ⟨Ao56,co56,eo56⟩:=Kd.R_slice HO329.out;subst eo56)|((with_reducible refine gate_store (t:=33) (p:=4) rfl ?_);refine store_event (t:=33) (p:=4) (v:=?vo_w57) (w1:=((((((w51.setCell ⟨gb309,0,none⟩ (.int .i64 t316)).setCell ⟨gb309,1,none⟩ (.int .i64 t317)).setCell ⟨gb309,2,none⟩ (.slice Ao53 t318.length co53)).setCell ⟨gb309,3,none⟩ (.slice Ao54 t321.length co54)).setCell ⟨gb309,4,none⟩ (.slice Ao55 t324.length co55)).setCell ⟨gb309,5,none⟩ (.slice Ao56 t327.length co56))) ?hg ?ho ?hn ?hr ?_;(case ho => rfl);(case hg => rfl);(case hn => rfl);(case hr => first|(go_simp;done)|(go_simp;rfl));intro w57 hw;have n0_ : Aside0 (Kd.R (Kd.int .i64) 3 w57 w.heap.size (fun k_ => some k_ ≠ (.slice Ao54 t321.length co54 : Value).ownBlock ∧ some k_ ≠ (.slice Ao55 t324.length co55 : Value).ownBlock) (.slice Ao53 t318.length co53) t318):=⟨(by rw [hw];exact (by (with_reducible repeat (first|apply Kd.R_alloc|apply Kd.R_drewN|apply Kd.R_drew));exact Kd.R_mono (Kd.R_fars gb309 (Kd.R_types HO320.out BK309.out (by decide)) (fun _ hk => hk.2)) (fun _ hk => ⟨hk.1.1,hk.1.2⟩)))⟩;have n1_ : Aside0 (Kd.R (Kd.int .i64) 3 w57 w.heap.size (fun k_ => some k_ ≠ (.slice Ao53 t318.length co53 : Value).ownBlock ∧ some k_ ≠ (.slice Ao55 t324.length co55 : Value).ownBlock) (.slice Ao54 t321.length co54) t321):=⟨(by rw [hw];exact (by (with_reducible repeat (first|apply Kd.R_alloc|apply Kd.R_drewN|apply Kd.R_drew));exact Kd.R_mono (Kd.R_fars gb309 (Kd.R_types HO323.out BK309.out (by decide)) (fun _ hk => hk.2)) (fun _ hk => ⟨hk.1.1,hk.1.2⟩)))⟩;have n2_ : Aside0 (Kd.R (Kd.int .i64) 3 w57 w.heap.size (fun k_ => some k_ ≠ (.slice Ao53 t318.length co53 : Value).ownBlock ∧ some k_ ≠ (.slice Ao54 t321.length co54 : Value).ownBlock) (.slice Ao55 t324.length co55) t324):=⟨(by rw [hw];exact (by (with_reducible repeat (first|apply Kd.R_alloc|apply Kd.R_drewN|apply Kd.R_drew));exact Kd.R_mono (Kd.R_fars gb309 (Kd.R_types HO326.out BK309.out (by decide)) (fun _ hk => hk.2)) (fun _ hk => ⟨hk.1.1,hk.1.2⟩)))⟩;have n3_ : Aside0 (Kd.R k50 50 w57 w.heap.size (fun _ => True) (.slice Ao56 t327.length co56) t327):=⟨(by rw [hw];exact (by (with_reducible repeat (first|apply Kd.R_alloc|apply Kd.R_drewN|apply Kd.R_drew));exact Kd.R_mono (Kd.R_fars gb309 (Kd.R_types HO329.out BK309.out (by decide)) (fun _ hk => hk.2)) (fun _ hk => trivial)))⟩;have n4_ : Aside0 (w57.heap[gb309]? = some (.cells #[.int .i64 t316,.int .i64 t317,.slice Ao53 t318.length co53,.slice Ao54 t321.length co54,.slice Ao55 t324.length co55,.slice Ao56 t327.length co56] 33 (0,0))):=⟨(by rw [hw];exact (by (with_reducible repeat (first|refine blk_drewN ?_ _|refine blk_drew ?_|refine blk_alloc ?_ _));exact blk_puts6 (blk_up BK309.out)))⟩;have n5_ : Aside0 (w57.heap[gb310]? = some (.cells #[.int .i64 0,.int .i64 0,.slice none 0 0,.slice none 0 0,.slice none 0 0,.slice none 0 0] 33 (0,0))):=⟨(by rw [hw];exact (by (with_reducible repeat (first|refine blk_drewN ?_ _|refine blk_drew ?_|refine blk_alloc ?_ _));refine blk_far ?_ NB310_309.out _;(with_reducible repeat (first|refine blk_drewN ?_ _|refine blk_drew ?_|refine blk_alloc ?_ _));refine blk_far ?_ NB310_309.out _;(with_reducible repeat (first|refine blk_drewN ?_ _|refine blk_drew ?_|refine blk_alloc ?_ _));refine blk_far ?_ NB310_309.out _;(with_reducible repeat (first|refine blk_drewN ?_ _|refine blk_drew ?_|refine blk_alloc ?_ _));refine blk_far ?_ NB310_309.out _;(with_reducible repeat (first|refine blk_drewN ?_ _|refine blk_drew ?_|refine blk_alloc ?_ _));refine blk_far ?_ NB310_309.out _;(with_reducible repeat (first|refine blk_drewN ?_ _|refine blk_drew ?_|refine blk_alloc ?_ _));refine blk_far ?_ NB310_309.out _;(with_reducible repeat (first|refine blk_drewN ?_ _|refine blk_drew ?_|refine blk_alloc ?_ _));exact BK310.out))⟩;have n6_ : Aside0 (Below w.heap.size w w57):=⟨(by rw [hw];exact (hb_))⟩;clear hw;clear HO320;clear HO323;clear HO326;clear HO329;clear BK309;clear BK310;clear HB;have HO320:=n0_;have HO323:=n1_;have HO326:=n2_;have HO329:=n3_;have BK309:=n4_;have BK310:=n5_;have HB:=n6_;clear n0_ n1_ n2_ n3_ n4_ n5_ n6_;obtain ⟨_,_,_,_,_,_,_,_,_,_,_,_⟩:=cells6 BK309.out;have p44 : 0 ≤ (a1 : Int):=of_decide_eq_true (by first|(with_reducible assumption)|assumption);have q44 : (a1 : Int) < ((t327.length : Int) : Int):=of_decide_eq_true (by first|(with_reducible assumption)|assumption);obtain ⟨go44,co44,eo44,gb44,gl44,cl44,HG44⟩:=Kd.R_form HO329.out (by omega);(first|cases eo44|(injection eo44 with ea_ en_ ec_;(first|subst ea_|(injection ea_ with ea_;subst ea_));subst ec_;clear en_));have GB44:=Aside0.mk gb44;have GG44:=Aside0.mk HG44;clear gb44 gl44 HG44;obtain ⟨ce44,hcl44,hM44,hcc44,hfr44⟩:=Kd.R_elem HO329.out z50 (a1 : Int) p44 q44;obtain rfl:=k50_openM hM44;have hx44_0 : w57.cell? ⟨go44,(a1 : Int).toNat * 5,none⟩ = some (.int .i64 ((rd_T50 t327 a1).f0)):=hcc44 0 _ rfl;have hx44_1 : w57.cell? ⟨go44,(a1 : Int).toNat * 5 + 1,none⟩ = some (.int .i64 ((rd_T50 t327 a1).f1)):=hcc44 1 _ rfl;have hx44_2 : w57.cell? ⟨go44,(a1 : Int).toNat * 5 + 2,none⟩ = some (.int .i64 ((rd_T50 t327 a1).f2)):=hcc44 2 _ rfl;have hx44_3 : w57.cell? ⟨go44,(a1 : Int).toNat * 5 + 3,none⟩ = some (.int .i64 ((rd_T50 t327 a1).f3)):=hcc44 3 _ rfl;have hx44_4 : w57.cell? ⟨go44,(a1 : Int).toNat * 5 + 4,none⟩ = some (.int .i64 ((rd_T50 t327 a1).f4)):=hcc44 4 _ rfl;have hf44_0 : w57.frozen? ⟨go44,(a1 : Int).toNat * 5,none⟩ = false:=hfr44 0;have hf44_1 : w57.frozen? ⟨go44,(a1 : Int).toNat * 5 + 1,none⟩ = false:=hfr44 1;have hf44_2 : w57.frozen? ⟨go44,(a1 : Int).toNat * 5 + 2,none⟩ = false:=hfr44 2;have hf44_3 : w57.frozen? ⟨go44,(a1 : Int).toNat * 5 + 3,none⟩ = false:=hfr44 3;have hf44_4 : w57.frozen? ⟨go44,(a1 : Int).toNat * 5 + 4,none⟩ = false:=hfr44 4;clear hcl44 hcc44 hfr44 hM44;replace p44:=eq_true p44;replace q44:=eq_true q44;have HX59:=Aside0.mk (show Kd.R k50 50 w57 w.heap.size (fun _ => True) (.slice (some ⟨go44,0,none⟩) t327.length co56) t327 from (Kd.R_up HO329.out));obtain ⟨ce59,hcl59,hM59,hcc59,hfr59⟩:=Kd.R_elem HX59.out z50 (a1 : Int) (of_decide_eq_true (by first|(with_reducible assumption)|assumption)) (by have h_ : (a1 : Int) < ((t327.length : Int) : Int):=of_decide_eq_true (by first|(with_reducible assumption)|assumption);first|exact h_|(have e_:=(Kd.R_reads' HO329.out).1;omega)|simpa using h_);obtain rfl:=k50_openM hM59;have HP59:=Kd.R_seg HX59.out (a1 : Int) (of_decide_eq_true (by first|(with_reducible assumption)|assumption)) (by have h_ : (a1 : Int) < ((t327.length : Int) : Int):=of_decide_eq_true (by first|(with_reducible assumption)|assumption);first|exact h_|(have e_:=(Kd.R_reads' HO329.out).1;omega)|simpa using h_) (seg:=[.int .i64 a2,.int .i64 (-1),.int .i64 t313,.int .i64 0,.int .i64 0]) (j:=0) hcl59 hcc59 (show 5 ≤ 5 from by decide) (x':=(⟨a2,(-1),t313,0,0⟩ : S50)) (k50_mkM _ _ _ (⟨a2,(-1),t313,0,0⟩ : S50) ) (fun _ hk => hk);have hx59_0:=hcc59 0 _ rfl;(try simp only [show (k50).sz = 5 from rfl,Nat.mul_one,Nat.add_zero] at hx59_0);have hf59_0:=hfr59 0;(try simp only [show (k50).sz = 5 from rfl,Nat.mul_one,Nat.add_zero] at hf59_0);have hx59_1:=hcc59 1 _ rfl;(try simp only [show (k50).sz = 5 from rfl,Nat.mul_one,Nat.add_zero] at hx59_1);have hf59_1:=hfr59 1;(try simp only [show (k50).sz = 5 from rfl,Nat.mul_one,Nat.add_zero] at hf59_1);have hx59_2:=hcc59 2 _ rfl;(try simp only [show (k50).sz = 5 from rfl,Nat.mul_one,Nat.add_zero] at hx59_2);have hf59_2:=hfr59 2;(try simp only [show (k50).sz = 5 from rfl,Nat.mul_one,Nat.add_zero] at hf59_2);have hx59_3:=hcc59 3 _ rfl;(try simp only [show (k50).sz = 5 from rfl,Nat.mul_one,Nat.add_zero] at hx59_3);have hf59_3:=hfr59 3;(try simp only [show (k50).sz = 5 from rfl,Nat.mul_one,Nat.add_zero] at hf59_3);have hx59_4:=hcc59 4 _ rfl;(try simp only [show (k50).sz = 5 from rfl,Nat.mul_one,Nat.add_zero] at hx59_4);have hf59_4:=hfr59 4;(try simp only [show (k50).sz = 5 from rfl,Nat.mul_one,Nat.add_zero] at hf59_4);clear hcl59 hcc59 hfr59 hM59)|((with_reducible refine gate_store (t:=50) (p:=73) rfl ?_);refine store_event (t:=50) (p:=73) (v:=?vo_w60) (w1:=(((((w57.setCell ⟨go44,(a1 : Int).toNat * 5,none⟩ (.int .i64 a2)).setCell ⟨go44,(a1 : Int).toNat * 5 + 1,none⟩ (.int .i64 (-1))).setCell ⟨go44,(a1 : Int).toNat * 5 + 2,none⟩ (.int .i64 t313)).setCell ⟨go44,(a1 : Int).toNat * 5 + 3,none⟩ (.int .i64 0)).setCell ⟨go44,(a1 : Int).toNat * 5 + 4,none⟩ (.int .i64 0))) ?hg ?ho ?hn ?hr ?_;(case ho => rfl);(case hg => rfl);(case hn => rfl);(case hr => first|(go_simp;done)|(go_simp;rfl));intro w60 hw;have hg : w57.grownBy w60 (some go44):=(by rw [hw];exact HP59.2);have hp_ : Kd.R k50 50 w60 w.heap.size (fun _ => True) (.slice (some ⟨go44,0,none⟩) t327.length co56) y330:=(by rw [hw,Ny330.out];exact HP59.1);clear HP59;replace BK309:=Aside0.mk (blk_grown (blk_up BK309.out) hg (Kd.R_ne HO329.out BK309.out (by decide)));replace BK310:=Aside0.mk (blk_grown (blk_up BK310.out) hg (Kd.R_ne HO329.out BK310.out (by decide)));replace HO320:=Aside0.mk (Kd.R_over' (v:=(.slice (some ⟨go44,0,none⟩) t327.length co56)) (Kd.R_up HO320.out) (Kd.R_typed HO329.out) (by decide) hg);replace HO323:=Aside0.mk (Kd.R_over' (v:=(.slice (some ⟨go44,0,none⟩) t327.length co56)) (Kd.R_up HO323.out) (Kd.R_typed HO329.out) (by decide) hg);replace HO326:=Aside0.mk (Kd.R_over' (v:=(.slice (some ⟨go44,0,none⟩) t327.length co56)) (Kd.R_up HO326.out) (Kd.R_typed HO329.out) (by decide) hg);replace HO329:=Aside0.mk (hp_);replace HB:=Aside0.mk ((by rw [hw];exact below_set (below_set (below_set (below_set (below_set (HB.out) GB44.out) GB44.out) GB44.out) GB44.out) GB44.out : Below w.heap.size w w60));clear hg hw hp_;obtain ⟨_,_,_,_,_,_,_,_,_,_,_,_⟩:=cells6 BK309.out;obtain ⟨_,_,_,_,_,_,_,_,_,_,_,_⟩:=cells6 BK310.out))
         refine bodyPost_ret (results_ct rfl _ _ gb310 33 #[.int .i64 t316,.int .i64 t317,.slice Ao53 t318.length co53,.slice Ao54 t321.length co54,.slice Ao55 t324.length co55,.slice (some ⟨go44,0,none⟩) t327.length co56] (0,0) _ rfl (by (with_reducible repeat (first|refine blk_drewN ?_ _|refine blk_drew ?_|refine blk_alloc ?_ _));exact blk_puts6 (blk_up BK310.out)) Try.underlying33 rfl (by kernel_rfl)) rfl ?_
         exact ⟨_,_,_,_,er_,by (with_reducible repeat (first|apply Kd.R_alloc|apply Kd.R_drewN|apply Kd.R_drew));exact Kd.R_mono (Kd.R_fars gb310 (Kd.R_types HO320.out BK310.out (by decide)) (fun _ hk => hk.2)) (fun _ hk => ⟨hk.1.1,hk.1.2⟩),by (with_reducible repeat (first|apply Kd.R_alloc|apply Kd.R_drewN|apply Kd.R_drew));exact Kd.R_mono (Kd.R_fars gb310 (Kd.R_types HO323.out BK310.out (by decide)) (fun _ hk => hk.2)) (fun _ hk => ⟨hk.1.1,hk.1.2⟩),by (with_reducible repeat (first|apply Kd.R_alloc|apply Kd.R_drewN|apply Kd.R_drew));exact Kd.R_mono (Kd.R_fars gb310 (Kd.R_types HO326.out BK310.out (by decide)) (fun _ hk => hk.2)) (fun _ hk => ⟨hk.1.1,hk.1.2⟩),by (with_reducible repeat (first|apply Kd.R_alloc|apply Kd.R_drewN|apply Kd.R_drew));exact Kd.R_mono (Kd.R_fars gb310 (Kd.R_types HO329.out BK310.out (by decide)) (fun _ hk => hk.2)) (fun _ hk => trivial),hb_⟩
       ·replace c32:=Bool.eq_false_iff.mpr c32
        subst c32
        have H1 : (some (0,0,([] : List Int),([] : List Int),([] : List Int),([] : List (S50)),2)) = some (r1,r2,r3,r4,r5,r6,r7):=by rw [if_neg (show ¬ (false = true) by decide)] at H;exact H
        clear H
        have H:=H1
        clear H1
        simp only [Option.some.injEq,Prod.mk.injEq] at H
        obtain ⟨rfl,rfl,rfl,rfl,rfl,rfl,rfl⟩:=H
        have hnb63:=NB309_310.out
        have hnc63:=NB310_309.out
        obtain ⟨_,_,_,_,_,_,_,_,_,_,_,_⟩:=cells6 BK309.out
        go_wp2_with (first|((with_reducible refine gate_callee (f:=35) rfl ?_);refine goesL_ (some 53) rfl rfl Try.func35 (by kernel_rfl) rfl #[.agg #[.int .i64 a0_0,.int .i64 a0_1,.slice A0_2 l0_2.length c0_2,.slice A0_3 l0_3.length c0_3],.int .i64 a2,.int .i64 (-1),.int .i64 a3] rfl ga_ ?_;(with_reducible refine (hinterlandref17_choose.calls kj21 a0_0 a0_1 _ _ l0_2 _ _ l0_3 a2 (-1) a3 t313 false _ ?_ ?_ ?_ ?_ A31.out).mono ?_);exact cq HR0_2;exact HC0_2.out;exact cq HR0_3;exact HC0_3.out;rintro e w65 ⟨rfl,hb⟩;refine ⟨_,rfl,?_⟩;replace BK309:=bkb BK309 hb;replace BK310:=bkb BK310 hb;replace HB:=hbs hb;obtain ⟨_,_,_,_,_,_,_,_,_,_,_,_⟩:=cells6 BK310.out))
        refine bodyPost_ret (results_ct rfl _ _ gb310 33 #[.int .i64 0,.int .i64 0,.slice none 0 0,.slice none 0 0,.slice none 0 0,.slice none 0 0] (0,0) _ rfl (by (with_reducible repeat (first|refine blk_drewN ?_ _|refine blk_drew ?_|refine blk_alloc ?_ _));exact blk_puts6 (blk_up BK310.out)) Try.underlying33 rfl (by kernel_rfl)) rfl ?_
        exact ⟨_,_,_,_,er_,nl_,nl_,nl_,nl_,hb_⟩

/-! ### hinterlandref17_Leave: function 20 -/
def hinterlandref17_Leave.f (k : Nat) (a0_0 : Int) (a0_1 : Int) (l0_2 : List Int) (l0_3 : List Int) (l0_4 : List Int) (l0_5 : List (S50)) (a1 : Int) : Option (Int × Int × List Int × List Int × List Int × (List (S50)) × Int) := (hinterlandref17_Validate.f k a0_0 a0_1 l0_2 l0_3 l0_4 l0_5).bind fun t333 => (if t333 = 0 then (if a1 < 0 then (some (0, 0, ([] : List Int), ([] : List Int), ([] : List Int), ([] : List (S50)), 2)) else (if a1 ≥ (l0_5.length : Int) then (some (0, 0, ([] : List Int), ([] : List Int), ([] : List Int), ([] : List (S50)), 2)) else ((hinterlandref17_Copy.f a0_0 a0_1 l0_2 l0_3 l0_4 l0_5).bind fun bt334 => (if 0 ≤ a1 then (if a1 < (bt334.2.2.2.2.2.length : Int) then (some (bt334.1, bt334.2.1, bt334.2.2.1, bt334.2.2.2.1, bt334.2.2.2.2.1, (bt334.2.2.2.2.2.set (a1 : Int).toNat (⟨(-1), (-1), 0, 0, 0⟩ : S50)), 0)) else (none)) else (none))))) else (some (0, 0, ([] : List Int), ([] : List Int), ([] : List Int), ([] : List (S50)), t333)))
theorem hinterlandref17_Leave.mono : ∀ a0 a1 a2 a3 a4 a5 a6 k, LeO (hinterlandref17_Leave.f k a0 a1 a2 a3 a4 a5 a6) (hinterlandref17_Leave.f (k + 1) a0 a1 a2 a3 a4 a5 a6) := by
 intro a0 a1 a2 a3 a4 a5 a6 k
 unfold hinterlandref17_Leave.f
 repeat' first
   | (with_reducible exact hinterlandref17_Validate.mono _ _ _ _ _ _ _)
   | (with_reducible exact LeO.refl _)
   | (with_reducible exact LeO.none _)
   | (with_reducible refine LeO.ite ?_ ?_)
   | (with_reducible refine LeO.bind ?_ (fun _ => ?_))
   | exact hinterlandref17_Validate.mono _ _ _ _ _ _ _
   | exact LeO.none _
   | refine LeO.ite ?_ ?_
   | refine LeO.bind ?_ (fun _ => ?_)
set_option maxHeartbeats 8000000 in
set_option maxRecDepth 100000 in
theorem hinterlandref17_Leave.calls (k : Nat) (a0_0 : Int) (a0_1 : Int) (A0_2 : Option Addr) (c0_2 : Nat) (l0_2 : List Int) (A0_3 : Option Addr) (c0_3 : Nat) (l0_3 : List Int) (A0_4 : Option Addr) (c0_4 : Nat) (l0_4 : List Int) (A0_5 : Option Addr) (c0_5 : Nat) (l0_5 : List (S50)) (a1 : Int) (r1 : Int) (r2 : Int) (r3 : List Int) (r4 : List Int) (r5 : List Int) (r6 : List (S50)) (r7 : Int) (w : World) (hr0_2 : Kd.C (Kd.int .i64) w A0_2 l0_2.length l0_2) (hc0_2 : l0_2.length ≤ c0_2) (hr0_3 : Kd.C (Kd.int .i64) w A0_3 l0_3.length l0_3) (hc0_3 : l0_3.length ≤ c0_3) (hr0_4 : Kd.C (Kd.int .i64) w A0_4 l0_4.length l0_4) (hc0_4 : l0_4.length ≤ c0_4) (hr0_5 : Kd.C k50 w A0_5 l0_5.length l0_5) (hc0_5 : l0_5.length ≤ c0_5) (h : hinterlandref17_Leave.f k a0_0 a0_1 l0_2 l0_3 l0_4 l0_5 a1 = some (r1, r2, r3, r4, r5, r6, r7)) :
  Calls Try.prog 20 #[.agg #[.int .i64 a0_0,.int .i64 a0_1,.slice A0_2 l0_2.length c0_2,.slice A0_3 l0_3.length c0_3,.slice A0_4 l0_4.length c0_4,.slice A0_5 l0_5.length c0_5],.int .i64 a1] w fun e w' => ∃ v2_ v3_ v4_ v5_ : Value,e = .returned (.tuple #[.agg #[.int .i64 r1,.int .i64 r2,v2_,v3_,v4_,v5_],.int .i64 r7]) ∧ Kd.R (Kd.int .i64) 3 w' w.heap.size (fun k_ => some k_ ≠ (v3_ : Value).ownBlock ∧ some k_ ≠ (v4_ : Value).ownBlock) v2_ r3 ∧ Kd.R (Kd.int .i64) 3 w' w.heap.size (fun k_ => some k_ ≠ (v2_ : Value).ownBlock ∧ some k_ ≠ (v4_ : Value).ownBlock) v3_ r4 ∧ Kd.R (Kd.int .i64) 3 w' w.heap.size (fun k_ => some k_ ≠ (v2_ : Value).ownBlock ∧ some k_ ≠ (v3_ : Value).ownBlock) v4_ r5 ∧ Kd.R k50 50 w' w.heap.size (fun _ => True) v5_ r6 ∧ Below w.heap.size w w':=by
 have hu33:=Try.underlying33
 have hu50:=Try.underlying50
 have HR0_2:=Aside0.mk hr0_2
 have HC0_2:=Aside0.mk hc0_2
 clear hr0_2 hc0_2
 have HR0_3:=Aside0.mk hr0_3
 have HC0_3:=Aside0.mk hc0_3
 clear hr0_3 hc0_3
 have HR0_4:=Aside0.mk hr0_4
 have HC0_4:=Aside0.mk hc0_4
 clear hr0_4 hc0_4
 have HR0_5:=Aside0.mk hr0_5
 have HC0_5:=Aside0.mk hc0_5
 clear hr0_5 hc0_5
 have HB:=Aside0.mk (Below.refl w.heap.size w)
 have H : ((hinterlandref17_Validate.f k a0_0 a0_1 l0_2 l0_3 l0_4 l0_5).bind fun t333 => (if t333 = 0 then (if a1 < 0 then (some (0,0,([] : List Int),([] : List Int),([] : List Int),([] : List (S50)),2)) else (if a1 ≥ (l0_5.length : Int) then (some (0,0,([] : List Int),([] : List Int),([] : List Int),([] : List (S50)),2)) else ((hinterlandref17_Copy.f a0_0 a0_1 l0_2 l0_3 l0_4 l0_5).bind fun bt334 => (if 0 ≤ a1 then (if a1 < (bt334.2.2.2.2.2.length : Int) then (some (bt334.1,bt334.2.1,bt334.2.2.1,bt334.2.2.2.1,bt334.2.2.2.2.1,(bt334.2.2.2.2.2.set (a1 : Int).toNat (⟨(-1),(-1),0,0,0⟩ : S50)),0)) else (none)) else (none))))) else (some (0,0,([] : List Int),([] : List Int),([] : List Int),([] : List (S50)),t333)))) = some (r1,r2,r3,r4,r5,r6,r7):=h
 clear h
 replace H:=Option.bind_eq_some_iff.mp H
 obtain ⟨t333,A30,H⟩:=H
 replace H : (if t333 = 0 then (if a1 < 0 then (some (0,0,([] : List Int),([] : List Int),([] : List Int),([] : List (S50)),2)) else (if a1 ≥ (l0_5.length : Int) then (some (0,0,([] : List Int),([] : List Int),([] : List Int),([] : List (S50)),2)) else ((hinterlandref17_Copy.f a0_0 a0_1 l0_2 l0_3 l0_4 l0_5).bind fun bt334 => (if 0 ≤ a1 then (if a1 < (bt334.2.2.2.2.2.length : Int) then (some (bt334.1,bt334.2.1,bt334.2.2.1,bt334.2.2.2.1,bt334.2.2.2.2.1,(bt334.2.2.2.2.2.set (a1 : Int).toNat (⟨(-1),(-1),0,0,0⟩ : S50)),0)) else (none)) else (none))))) else (some (0,0,([] : List Int),([] : List Int),([] : List Int),([] : List (S50)),t333))) = some (r1,r2,r3,r4,r5,r6,r7):=H
 have A3:=Aside0.mk A30
 clear A30
 by_cases c4 : t333 = 0
 rotate_left
 ·rw [if_neg c4] at H
  have c4b0:=bqf c4
  have c4b1:=bnt c4
  simp only [Option.some.injEq,Prod.mk.injEq] at H
  obtain ⟨rfl,rfl,rfl,rfl,rfl,rfl,rfl⟩:=H
  go_enter Try.func20,Try.ntmps20
  go_wp2_with (first|((with_reducible refine gate_dst (N:=2) rfl ?_);(try (refine gate_guard (by rfl) ?_;dsimp only));refine box_ev (N:=2) (cs:=#[.int .i64 a0_0,.int .i64 a0_1,.slice A0_2 l0_2.length c0_2,.slice A0_3 l0_3.length c0_3,.slice A0_4 l0_4.length c0_4,.slice A0_5 l0_5.length c0_5]) (t:=33) ?_;intro gb331 hg w42 hbox hb;have BK331:=Aside0.mk (hbox);have GW331 : Aside0 (w.heap.size ≤ gb331):=gsz hg;have GE331:=GW331;replace HB:=hbs hb;clear hb hbox hg)|((with_reducible refine gate_dst (N:=4) rfl ?_);(try (refine gate_guard (by rfl) ?_;dsimp only));refine box_ev (N:=4) (cs:=#[.int .i64 0,.int .i64 0,.slice none 0 0,.slice none 0 0,.slice none 0 0,.slice none 0 0]) (t:=33) ?_;intro gb332 hg w43 hbox hb;have BK332:=Aside0.mk (hbox);have GW332 : Aside0 (w.heap.size ≤ gb332):=gsz hg;have GE332:=GW332;have NB331_332:=nbl BK331 hg;have NB332_331:=nbr BK331 hg;replace BK331:=bkb BK331 hb;replace HB:=hbs hb;clear hb hbox hg;have hnb44:=NB331_332.out;have hnc44:=NB332_331.out;obtain ⟨_,_,_,_,_,_,_,_,_,_,_,_⟩:=cells6 BK331.out)|((with_reducible refine gate_callee (f:=17) rfl ?_);refine goesL_ (some 8) rfl rfl Try.func17 (by kernel_rfl) rfl #[.agg #[.int .i64 a0_0,.int .i64 a0_1,.slice A0_2 l0_2.length c0_2,.slice A0_3 l0_3.length c0_3,.slice A0_4 l0_4.length c0_4,.slice A0_5 l0_5.length c0_5]] rfl ga_ ?_;(with_reducible refine (hinterlandref17_Validate.calls k a0_0 a0_1 _ _ l0_2 _ _ l0_3 _ _ l0_4 _ _ l0_5 t333 _ ?_ ?_ ?_ ?_ ?_ ?_ ?_ ?_ A3.out).mono ?_);exact cq HR0_2;exact HC0_2.out;exact cq HR0_3;exact HC0_3.out;exact cq HR0_4;exact HC0_4.out;exact cq HR0_5;exact HC0_5.out;rintro e w46 ⟨rfl,hb⟩;refine ⟨_,rfl,?_⟩;replace BK331:=bkb BK331 hb;replace BK332:=bkb BK332 hb;replace HB:=hbs hb;obtain ⟨_,_,_,_,_,_,_,_,_,_,_,_⟩:=cells6 BK332.out))
  refine bodyPost_ret (results_ct rfl _ _ gb332 33 #[.int .i64 0,.int .i64 0,.slice none 0 0,.slice none 0 0,.slice none 0 0,.slice none 0 0] (0,0) _ rfl (by (with_reducible repeat (first|refine blk_drewN ?_ _|refine blk_drew ?_|refine blk_alloc ?_ _));exact blk_puts6 (blk_up BK332.out)) Try.underlying33 rfl (by kernel_rfl)) rfl ?_
  exact ⟨_,_,_,_,er_,nl_,nl_,nl_,nl_,hb_⟩
 rw [if_pos c4] at H
 have c4b0:=bqt c4
 have c4b1:=bnf c4
 clear c4
 by_cases c5 : a1 < 0
 ·rw [if_pos c5] at H
  have c5b0 : decide (a1 < 0) = true:=decide_eq_true c5
  clear c5
  simp only [Option.some.injEq,Prod.mk.injEq] at H
  obtain ⟨rfl,rfl,rfl,rfl,rfl,rfl,rfl⟩:=H
  go_enter Try.func20,Try.ntmps20
  go_wp2_with (first|((with_reducible refine gate_dst (N:=2) rfl ?_);(try (refine gate_guard (by rfl) ?_;dsimp only));refine box_ev (N:=2) (cs:=#[.int .i64 a0_0,.int .i64 a0_1,.slice A0_2 l0_2.length c0_2,.slice A0_3 l0_3.length c0_3,.slice A0_4 l0_4.length c0_4,.slice A0_5 l0_5.length c0_5]) (t:=33) ?_;intro gb331 hg w6 hbox hb;have BK331:=Aside0.mk (hbox);have GW331 : Aside0 (w.heap.size ≤ gb331):=gsz hg;have GE331:=GW331;replace HB:=hbs hb;clear hb hbox hg)|((with_reducible refine gate_dst (N:=4) rfl ?_);(try (refine gate_guard (by rfl) ?_;dsimp only));refine box_ev (N:=4) (cs:=#[.int .i64 0,.int .i64 0,.slice none 0 0,.slice none 0 0,.slice none 0 0,.slice none 0 0]) (t:=33) ?_;intro gb332 hg w7 hbox hb;have BK332:=Aside0.mk (hbox);have GW332 : Aside0 (w.heap.size ≤ gb332):=gsz hg;have GE332:=GW332;have NB331_332:=nbl BK331 hg;have NB332_331:=nbr BK331 hg;replace BK331:=bkb BK331 hb;replace HB:=hbs hb;clear hb hbox hg;have hnb8:=NB331_332.out;have hnc8:=NB332_331.out;obtain ⟨_,_,_,_,_,_,_,_,_,_,_,_⟩:=cells6 BK331.out)|((with_reducible refine gate_callee (f:=17) rfl ?_);refine goesL_ (some 8) rfl rfl Try.func17 (by kernel_rfl) rfl #[.agg #[.int .i64 a0_0,.int .i64 a0_1,.slice A0_2 l0_2.length c0_2,.slice A0_3 l0_3.length c0_3,.slice A0_4 l0_4.length c0_4,.slice A0_5 l0_5.length c0_5]] rfl ga_ ?_;(with_reducible refine (hinterlandref17_Validate.calls k a0_0 a0_1 _ _ l0_2 _ _ l0_3 _ _ l0_4 _ _ l0_5 t333 _ ?_ ?_ ?_ ?_ ?_ ?_ ?_ ?_ A3.out).mono ?_);exact cq HR0_2;exact HC0_2.out;exact cq HR0_3;exact HC0_3.out;exact cq HR0_4;exact HC0_4.out;exact cq HR0_5;exact HC0_5.out;rintro e w10 ⟨rfl,hb⟩;refine ⟨_,rfl,?_⟩;replace BK331:=bkb BK331 hb;replace BK332:=bkb BK332 hb;replace HB:=hbs hb;obtain ⟨_,_,_,_,_,_,_,_,_,_,_,_⟩:=cells6 BK332.out))
  refine bodyPost_ret (results_ct rfl _ _ gb332 33 #[.int .i64 0,.int .i64 0,.slice none 0 0,.slice none 0 0,.slice none 0 0,.slice none 0 0] (0,0) _ rfl (by (with_reducible repeat (first|refine blk_drewN ?_ _|refine blk_drew ?_|refine blk_alloc ?_ _));exact blk_puts6 (blk_up BK332.out)) Try.underlying33 rfl (by kernel_rfl)) rfl ?_
  exact ⟨_,_,_,_,er_,nl_,nl_,nl_,nl_,hb_⟩
 rw [if_neg c5] at H
 have c5b0 : decide (a1 < 0) = false:=decide_eq_false c5
 clear c5
 by_cases c12 : a1 ≥ (l0_5.length : Int)
 ·rw [if_pos c12] at H
  have c12b0 : decide ((l0_5.length : Int) ≤ a1) = true:=decide_eq_true c12
  clear c12
  simp only [Option.some.injEq,Prod.mk.injEq] at H
  obtain ⟨rfl,rfl,rfl,rfl,rfl,rfl,rfl⟩:=H
  go_enter Try.func20,Try.ntmps20
  go_wp2_with (first|((with_reducible refine gate_dst (N:=2) rfl ?_);(try (refine gate_guard (by rfl) ?_;dsimp only));refine box_ev (N:=2) (cs:=#[.int .i64 a0_0,.int .i64 a0_1,.slice A0_2 l0_2.length c0_2,.slice A0_3 l0_3.length c0_3,.slice A0_4 l0_4.length c0_4,.slice A0_5 l0_5.length c0_5]) (t:=33) ?_;intro gb331 hg w13 hbox hb;have BK331:=Aside0.mk (hbox);have GW331 : Aside0 (w.heap.size ≤ gb331):=gsz hg;have GE331:=GW331;replace HB:=hbs hb;clear hb hbox hg)|((with_reducible refine gate_dst (N:=4) rfl ?_);(try (refine gate_guard (by rfl) ?_;dsimp only));refine box_ev (N:=4) (cs:=#[.int .i64 0,.int .i64 0,.slice none 0 0,.slice none 0 0,.slice none 0 0,.slice none 0 0]) (t:=33) ?_;intro gb332 hg w14 hbox hb;have BK332:=Aside0.mk (hbox);have GW332 : Aside0 (w.heap.size ≤ gb332):=gsz hg;have GE332:=GW332;have NB331_332:=nbl BK331 hg;have NB332_331:=nbr BK331 hg;replace BK331:=bkb BK331 hb;replace HB:=hbs hb;clear hb hbox hg;have hnb15:=NB331_332.out;have hnc15:=NB332_331.out;obtain ⟨_,_,_,_,_,_,_,_,_,_,_,_⟩:=cells6 BK331.out)|((with_reducible refine gate_callee (f:=17) rfl ?_);refine goesL_ (some 8) rfl rfl Try.func17 (by kernel_rfl) rfl #[.agg #[.int .i64 a0_0,.int .i64 a0_1,.slice A0_2 l0_2.length c0_2,.slice A0_3 l0_3.length c0_3,.slice A0_4 l0_4.length c0_4,.slice A0_5 l0_5.length c0_5]] rfl ga_ ?_;(with_reducible refine (hinterlandref17_Validate.calls k a0_0 a0_1 _ _ l0_2 _ _ l0_3 _ _ l0_4 _ _ l0_5 t333 _ ?_ ?_ ?_ ?_ ?_ ?_ ?_ ?_ A3.out).mono ?_);exact cq HR0_2;exact HC0_2.out;exact cq HR0_3;exact HC0_3.out;exact cq HR0_4;exact HC0_4.out;exact cq HR0_5;exact HC0_5.out;rintro e w17 ⟨rfl,hb⟩;refine ⟨_,rfl,?_⟩;replace BK331:=bkb BK331 hb;replace BK332:=bkb BK332 hb;replace HB:=hbs hb;obtain ⟨_,_,_,_,_,_,_,_,_,_,_,_⟩:=cells6 BK331.out;obtain ⟨_,_,_,_,_,_,_,_,_,_,_,_⟩:=cells6 BK332.out))
  refine bodyPost_ret (results_ct rfl _ _ gb332 33 #[.int .i64 0,.int .i64 0,.slice none 0 0,.slice none 0 0,.slice none 0 0,.slice none 0 0] (0,0) _ rfl (by (with_reducible repeat (first|refine blk_drewN ?_ _|refine blk_drew ?_|refine blk_alloc ?_ _));exact blk_puts6 (blk_up BK332.out)) Try.underlying33 rfl (by kernel_rfl)) rfl ?_
  exact ⟨_,_,_,_,er_,nl_,nl_,nl_,nl_,hb_⟩
 ·rw [if_neg c12] at H
  have c12b0 : decide ((l0_5.length : Int) ≤ a1) = false:=decide_eq_false c12
  clear c12
  replace H:=Option.bind_eq_some_iff.mp H
  obtain ⟨⟨t334,t335,t336,t339,t342,t345⟩,A200,H⟩:=H
  replace H : (if 0 ≤ a1 then (if a1 < (t345.length : Int) then (some (t334,t335,t336,t339,t342,(t345.set (a1 : Int).toNat (⟨(-1),(-1),0,0,0⟩ : S50)),0)) else (none)) else (none)) = some (r1,r2,r3,r4,r5,r6,r7):=H
  have A20:=Aside0.mk A200
  clear A200
  replace H:=ifp_ H;obtain ⟨c21,H⟩:=H
  have c21b0 : decide (0 ≤ a1) = true:=decide_eq_true c21
  clear c21
  replace H:=ifp_ H;obtain ⟨c22,H⟩:=H
  have c22b0 : decide (a1 < (t345.length : Int)) = true:=decide_eq_true c22
  clear c22
  obtain ⟨y348,hy348⟩ : ∃ y_ : List (S50),y_ = (t345.set (a1 : Int).toNat (⟨(-1),(-1),0,0,0⟩ : S50)):=⟨_,rfl⟩
  replace H : (some (t334,t335,t336,t339,t342,y348,0)) = some (r1,r2,r3,r4,r5,r6,r7):=by first|(rw [hy348];with_reducible exact H)|(have H2_:=(Option.bind_some _ _).symm.trans H;rw [hy348];with_reducible exact H2_)|(have H2_:=(Option.bind_some _ _).symm.trans H;with_reducible exact H2_)|with_reducible exact H|(rw [hy348];exact H)|exact H
  have Ny348:=Aside0.mk hy348
  clear hy348
  simp only [Option.some.injEq,Prod.mk.injEq] at H
  obtain ⟨rfl,rfl,rfl,rfl,rfl,rfl,rfl⟩:=H
  go_enter Try.func20,Try.ntmps20
  go_wp2_with (first|((with_reducible refine gate_dst (N:=2) rfl ?_);(try (refine gate_guard (by rfl) ?_;dsimp only));refine box_ev (N:=2) (cs:=#[.int .i64 a0_0,.int .i64 a0_1,.slice A0_2 l0_2.length c0_2,.slice A0_3 l0_3.length c0_3,.slice A0_4 l0_4.length c0_4,.slice A0_5 l0_5.length c0_5]) (t:=33) ?_;intro gb331 hg w24 hbox hb;have BK331:=Aside0.mk (hbox);have GW331 : Aside0 (w.heap.size ≤ gb331):=gsz hg;have GE331:=GW331;replace HB:=hbs hb;clear hb hbox hg)|((with_reducible refine gate_dst (N:=4) rfl ?_);(try (refine gate_guard (by rfl) ?_;dsimp only));refine box_ev (N:=4) (cs:=#[.int .i64 0,.int .i64 0,.slice none 0 0,.slice none 0 0,.slice none 0 0,.slice none 0 0]) (t:=33) ?_;intro gb332 hg w25 hbox hb;have BK332:=Aside0.mk (hbox);have GW332 : Aside0 (w.heap.size ≤ gb332):=gsz hg;have GE332:=GW332;have NB331_332:=nbl BK331 hg;have NB332_331:=nbr BK331 hg;replace BK331:=bkb BK331 hb;replace HB:=hbs hb;clear hb hbox hg;have hnb26:=NB331_332.out;have hnc26:=NB332_331.out;obtain ⟨_,_,_,_,_,_,_,_,_,_,_,_⟩:=cells6 BK331.out)|((with_reducible refine gate_callee (f:=17) rfl ?_);refine goesL_ (some 8) rfl rfl Try.func17 (by kernel_rfl) rfl #[.agg #[.int .i64 a0_0,.int .i64 a0_1,.slice A0_2 l0_2.length c0_2,.slice A0_3 l0_3.length c0_3,.slice A0_4 l0_4.length c0_4,.slice A0_5 l0_5.length c0_5]] rfl ga_ ?_;(with_reducible refine (hinterlandref17_Validate.calls k a0_0 a0_1 _ _ l0_2 _ _ l0_3 _ _ l0_4 _ _ l0_5 t333 _ ?_ ?_ ?_ ?_ ?_ ?_ ?_ ?_ A3.out).mono ?_);exact cq HR0_2;exact HC0_2.out;exact cq HR0_3;exact HC0_3.out;exact cq HR0_4;exact HC0_4.out;exact cq HR0_5;exact HC0_5.out;rintro e w28 ⟨rfl,hb⟩;refine ⟨_,rfl,?_⟩;replace BK331:=bkb BK331 hb;replace BK332:=bkb BK332 hb;replace HB:=hbs hb;obtain ⟨_,_,_,_,_,_,_,_,_,_,_,_⟩:=cells6 BK331.out)|((with_reducible refine gate_callee (f:=44) rfl ?_);refine goesL_ (some 24) rfl rfl Try.func44 (by kernel_rfl) rfl #[.agg #[.int .i64 a0_0,.int .i64 a0_1,.slice A0_2 l0_2.length c0_2,.slice A0_3 l0_3.length c0_3,.slice A0_4 l0_4.length c0_4,.slice A0_5 l0_5.length c0_5]] rfl ga_ ?_;(with_reducible refine (hinterlandref17_Copy.calls a0_0 a0_1 _ _ l0_2 _ _ l0_3 _ _ l0_4 _ _ l0_5 t334 t335 t336 t339 t342 t345 _ ?_ ?_ ?_ ?_ ?_ ?_ ?_ ?_ A20.out).mono ?_);exact cq HR0_2;exact HC0_2.out;exact cq HR0_3;exact HC0_3.out;exact cq HR0_4;exact HC0_4.out;exact cq HR0_5;exact HC0_5.out;rintro e w30 ⟨v337,v340,v343,v346,rfl,ho0,ho1,ho2,ho3,hb⟩;refine ⟨_,rfl,?_⟩;have HO338:=rlo ho0;have HO341:=rlo ho1;have HO344:=rlo ho2;have HO347:=rlo ho3;replace BK331:=bkb BK331 hb;replace BK332:=bkb BK332 hb;replace HB:=hbs hb;obtain ⟨_,_,_,_,_,_,_,_,_,_,_,_⟩:=cells6 BK331.out;obtain ⟨Ao32,co32,eo32⟩:=Kd.R_slice HO338.out;subst eo32;obtain ⟨Ao33,co33,eo33⟩:=Kd.R_slice HO341.out;subst eo33;obtain ⟨Ao34,co34,eo34⟩:=Kd.R_slice HO344.out;subst eo34;obtain ⟨Ao35,co35,eo35⟩:=Kd.R_slice HO347.out;subst eo35)|((with_reducible refine gate_store (t:=33) (p:=2) rfl ?_);refine store_event (t:=33) (p:=2) (v:=?vo_w36) (w1:=((((((w30.setCell ⟨gb331,0,none⟩ (.int .i64 t334)).setCell ⟨gb331,1,none⟩ (.int .i64 t335)).setCell ⟨gb331,2,none⟩ (.slice Ao32 t336.length co32)).setCell ⟨gb331,3,none⟩ (.slice Ao33 t339.length co33)).setCell ⟨gb331,4,none⟩ (.slice Ao34 t342.length co34)).setCell ⟨gb331,5,none⟩ (.slice Ao35 t345.length co35))) ?hg ?ho ?hn ?hr ?_;(case ho => rfl);(case hg => rfl);(case hn => rfl);(case hr => first|(go_simp;done)|(go_simp;rfl));intro w36 hw;have n0_ : Aside0 (Kd.R (Kd.int .i64) 3 w36 w.heap.size (fun k_ => some k_ ≠ (.slice Ao33 t339.length co33 : Value).ownBlock ∧ some k_ ≠ (.slice Ao34 t342.length co34 : Value).ownBlock) (.slice Ao32 t336.length co32) t336):=⟨(by rw [hw];exact (by (with_reducible repeat (first|apply Kd.R_alloc|apply Kd.R_drewN|apply Kd.R_drew));exact Kd.R_mono (Kd.R_fars gb331 (Kd.R_types HO338.out BK331.out (by decide)) (fun _ hk => hk.2)) (fun _ hk => ⟨hk.1.1,hk.1.2⟩)))⟩;have n1_ : Aside0 (Kd.R (Kd.int .i64) 3 w36 w.heap.size (fun k_ => some k_ ≠ (.slice Ao32 t336.length co32 : Value).ownBlock ∧ some k_ ≠ (.slice Ao34 t342.length co34 : Value).ownBlock) (.slice Ao33 t339.length co33) t339):=⟨(by rw [hw];exact (by (with_reducible repeat (first|apply Kd.R_alloc|apply Kd.R_drewN|apply Kd.R_drew));exact Kd.R_mono (Kd.R_fars gb331 (Kd.R_types HO341.out BK331.out (by decide)) (fun _ hk => hk.2)) (fun _ hk => ⟨hk.1.1,hk.1.2⟩)))⟩;have n2_ : Aside0 (Kd.R (Kd.int .i64) 3 w36 w.heap.size (fun k_ => some k_ ≠ (.slice Ao32 t336.length co32 : Value).ownBlock ∧ some k_ ≠ (.slice Ao33 t339.length co33 : Value).ownBlock) (.slice Ao34 t342.length co34) t342):=⟨(by rw [hw];exact (by (with_reducible repeat (first|apply Kd.R_alloc|apply Kd.R_drewN|apply Kd.R_drew));exact Kd.R_mono (Kd.R_fars gb331 (Kd.R_types HO344.out BK331.out (by decide)) (fun _ hk => hk.2)) (fun _ hk => ⟨hk.1.1,hk.1.2⟩)))⟩;have n3_ : Aside0 (Kd.R k50 50 w36 w.heap.size (fun _ => True) (.slice Ao35 t345.length co35) t345):=⟨(by rw [hw];exact (by (with_reducible repeat (first|apply Kd.R_alloc|apply Kd.R_drewN|apply Kd.R_drew));exact Kd.R_mono (Kd.R_fars gb331 (Kd.R_types HO347.out BK331.out (by decide)) (fun _ hk => hk.2)) (fun _ hk => trivial)))⟩;have n4_ : Aside0 (w36.heap[gb331]? = some (.cells #[.int .i64 t334,.int .i64 t335,.slice Ao32 t336.length co32,.slice Ao33 t339.length co33,.slice Ao34 t342.length co34,.slice Ao35 t345.length co35] 33 (0,0))):=⟨(by rw [hw];exact (by (with_reducible repeat (first|refine blk_drewN ?_ _|refine blk_drew ?_|refine blk_alloc ?_ _));exact blk_puts6 (blk_up BK331.out)))⟩;have n5_ : Aside0 (w36.heap[gb332]? = some (.cells #[.int .i64 0,.int .i64 0,.slice none 0 0,.slice none 0 0,.slice none 0 0,.slice none 0 0] 33 (0,0))):=⟨(by rw [hw];exact (by (with_reducible repeat (first|refine blk_drewN ?_ _|refine blk_drew ?_|refine blk_alloc ?_ _));refine blk_far ?_ NB332_331.out _;(with_reducible repeat (first|refine blk_drewN ?_ _|refine blk_drew ?_|refine blk_alloc ?_ _));refine blk_far ?_ NB332_331.out _;(with_reducible repeat (first|refine blk_drewN ?_ _|refine blk_drew ?_|refine blk_alloc ?_ _));refine blk_far ?_ NB332_331.out _;(with_reducible repeat (first|refine blk_drewN ?_ _|refine blk_drew ?_|refine blk_alloc ?_ _));refine blk_far ?_ NB332_331.out _;(with_reducible repeat (first|refine blk_drewN ?_ _|refine blk_drew ?_|refine blk_alloc ?_ _));refine blk_far ?_ NB332_331.out _;(with_reducible repeat (first|refine blk_drewN ?_ _|refine blk_drew ?_|refine blk_alloc ?_ _));refine blk_far ?_ NB332_331.out _;(with_reducible repeat (first|refine blk_drewN ?_ _|refine blk_drew ?_|refine blk_alloc ?_ _));exact BK332.out))⟩;have n6_ : Aside0 (Below w.heap.size w w36):=⟨(by rw [hw];exact (hb_))⟩;clear hw;clear HO338;clear HO341;clear HO344;clear HO347;clear BK331;clear BK332;clear HB;have HO338:=n0_;have HO341:=n1_;have HO344:=n2_;have HO347:=n3_;have BK331:=n4_;have BK332:=n5_;have HB:=n6_;clear n0_ n1_ n2_ n3_ n4_ n5_ n6_;obtain ⟨_,_,_,_,_,_,_,_,_,_,_,_⟩:=cells6 BK331.out;have p23 : 0 ≤ (a1 : Int):=of_decide_eq_true (by first|(with_reducible assumption)|assumption);have q23 : (a1 : Int) < ((t345.length : Int) : Int):=of_decide_eq_true (by first|(with_reducible assumption)|assumption);obtain ⟨go23,co23,eo23,gb23,gl23,cl23,HG23⟩:=Kd.R_form HO347.out (by omega);(first|cases eo23|(injection eo23 with ea_ en_ ec_;(first|subst ea_|(injection ea_ with ea_;subst ea_));subst ec_;clear en_));have GB23:=Aside0.mk gb23;have GG23:=Aside0.mk HG23;clear gb23 gl23 HG23;obtain ⟨ce23,hcl23,hM23,hcc23,hfr23⟩:=Kd.R_elem HO347.out z50 (a1 : Int) p23 q23;obtain rfl:=k50_openM hM23;have hx23_0 : w36.cell? ⟨go23,(a1 : Int).toNat * 5,none⟩ = some (.int .i64 ((rd_T50 t345 a1).f0)):=hcc23 0 _ rfl;have hx23_1 : w36.cell? ⟨go23,(a1 : Int).toNat * 5 + 1,none⟩ = some (.int .i64 ((rd_T50 t345 a1).f1)):=hcc23 1 _ rfl;have hx23_2 : w36.cell? ⟨go23,(a1 : Int).toNat * 5 + 2,none⟩ = some (.int .i64 ((rd_T50 t345 a1).f2)):=hcc23 2 _ rfl;have hx23_3 : w36.cell? ⟨go23,(a1 : Int).toNat * 5 + 3,none⟩ = some (.int .i64 ((rd_T50 t345 a1).f3)):=hcc23 3 _ rfl;have hx23_4 : w36.cell? ⟨go23,(a1 : Int).toNat * 5 + 4,none⟩ = some (.int .i64 ((rd_T50 t345 a1).f4)):=hcc23 4 _ rfl;have hf23_0 : w36.frozen? ⟨go23,(a1 : Int).toNat * 5,none⟩ = false:=hfr23 0;have hf23_1 : w36.frozen? ⟨go23,(a1 : Int).toNat * 5 + 1,none⟩ = false:=hfr23 1;have hf23_2 : w36.frozen? ⟨go23,(a1 : Int).toNat * 5 + 2,none⟩ = false:=hfr23 2;have hf23_3 : w36.frozen? ⟨go23,(a1 : Int).toNat * 5 + 3,none⟩ = false:=hfr23 3;have hf23_4 : w36.frozen? ⟨go23,(a1 : Int).toNat * 5 + 4,none⟩ = false:=hfr23 4;clear hcl23 hcc23 hfr23 hM23;replace p23:=eq_true p23;replace q23:=eq_true q23;have HX38:=Aside0.mk (show Kd.R k50 50 w36 w.heap.size (fun _ => True) (.slice (some ⟨go23,0,none⟩) t345.length co35) t345 from (Kd.R_up HO347.out));obtain ⟨ce38,hcl38,hM38,hcc38,hfr38⟩:=Kd.R_elem HX38.out z50 (a1 : Int) (of_decide_eq_true (by first|(with_reducible assumption)|assumption)) (by have h_ : (a1 : Int) < ((t345.length : Int) : Int):=of_decide_eq_true (by first|(with_reducible assumption)|assumption);first|exact h_|(have e_:=(Kd.R_reads' HO347.out).1;omega)|simpa using h_);obtain rfl:=k50_openM hM38;have HP38:=Kd.R_seg HX38.out (a1 : Int) (of_decide_eq_true (by first|(with_reducible assumption)|assumption)) (by have h_ : (a1 : Int) < ((t345.length : Int) : Int):=of_decide_eq_true (by first|(with_reducible assumption)|assumption);first|exact h_|(have e_:=(Kd.R_reads' HO347.out).1;omega)|simpa using h_) (seg:=[.int .i64 (-1),.int .i64 (-1),.int .i64 0,.int .i64 0,.int .i64 0]) (j:=0) hcl38 hcc38 (show 5 ≤ 5 from by decide) (x':=(⟨(-1),(-1),0,0,0⟩ : S50)) (k50_mkM _ _ _ (⟨(-1),(-1),0,0,0⟩ : S50) ) (fun _ hk => hk);have hx38_0:=hcc38 0 _ rfl;(try simp only [show (k50).sz = 5 from rfl,Nat.mul_one,Nat.add_zero] at hx38_0);have hf38_0:=hfr38 0;(try simp only [show (k50).sz = 5 from rfl,Nat.mul_one,Nat.add_zero] at hf38_0);have hx38_1:=hcc38 1 _ rfl;(try simp only [show (k50).sz = 5 from rfl,Nat.mul_one,Nat.add_zero] at hx38_1);have hf38_1:=hfr38 1;(try simp only [show (k50).sz = 5 from rfl,Nat.mul_one,Nat.add_zero] at hf38_1);have hx38_2:=hcc38 2 _ rfl;(try simp only [show (k50).sz = 5 from rfl,Nat.mul_one,Nat.add_zero] at hx38_2);have hf38_2:=hfr38 2;(try simp only [show (k50).sz = 5 from rfl,Nat.mul_one,Nat.add_zero] at hf38_2);have hx38_3:=hcc38 3 _ rfl;(try simp only [show (k50).sz = 5 from rfl,Nat.mul_one,Nat.add_zero] at hx38_3);have hf38_3:=hfr38 3;(try simp only [show (k50).sz = 5 from rfl,Nat.mul_one,Nat.add_zero] at hf38_3);have hx38_4:=hcc38 4 _ rfl;(try simp only [show (k50).sz = 5 from rfl,Nat.mul_one,Nat.add_zero] at hx38_4);have hf38_4:=hfr38 4;(try simp only [show (k50).sz = 5 from rfl,Nat.mul_one,Nat.add_zero] at hf38_4);clear hcl38 hcc38 hfr38 hM38)|((with_reducible refine gate_store (t:=50) (p:=29) rfl ?_);refine store_event (t:=50) (p:=29) (v:=?vo_w39) (w1:=(((((w36.setCell ⟨go23,(a1 : Int).toNat * 5,none⟩ (.int .i64 (-1))).setCell ⟨go23,(a1 : Int).toNat * 5 + 1,none⟩ (.int .i64 (-1))).setCell ⟨go23,(a1 : Int).toNat * 5 + 2,none⟩ (.int .i64 0)).setCell ⟨go23,(a1 : Int).toNat * 5 + 3,none⟩ (.int .i64 0)).setCell ⟨go23,(a1 : Int).toNat * 5 + 4,none⟩ (.int .i64 0))) ?hg ?ho ?hn ?hr ?_;(case ho => rfl);(case hg => rfl);(case hn => rfl);(case hr => first|(go_simp;done)|(go_simp;rfl));intro w39 hw;have hg : w36.grownBy w39 (some go23):=(by rw [hw];exact HP38.2);have hp_ : Kd.R k50 50 w39 w.heap.size (fun _ => True) (.slice (some ⟨go23,0,none⟩) t345.length co35) y348:=(by rw [hw,Ny348.out];exact HP38.1);clear HP38;replace BK331:=Aside0.mk (blk_grown (blk_up BK331.out) hg (Kd.R_ne HO347.out BK331.out (by decide)));replace BK332:=Aside0.mk (blk_grown (blk_up BK332.out) hg (Kd.R_ne HO347.out BK332.out (by decide)));replace HO338:=Aside0.mk (Kd.R_over' (v:=(.slice (some ⟨go23,0,none⟩) t345.length co35)) (Kd.R_up HO338.out) (Kd.R_typed HO347.out) (by decide) hg);replace HO341:=Aside0.mk (Kd.R_over' (v:=(.slice (some ⟨go23,0,none⟩) t345.length co35)) (Kd.R_up HO341.out) (Kd.R_typed HO347.out) (by decide) hg);replace HO344:=Aside0.mk (Kd.R_over' (v:=(.slice (some ⟨go23,0,none⟩) t345.length co35)) (Kd.R_up HO344.out) (Kd.R_typed HO347.out) (by decide) hg);replace HO347:=Aside0.mk (hp_);replace HB:=Aside0.mk ((by rw [hw];exact below_set (below_set (below_set (below_set (below_set (HB.out) GB23.out) GB23.out) GB23.out) GB23.out) GB23.out : Below w.heap.size w w39));clear hg hw hp_;obtain ⟨_,_,_,_,_,_,_,_,_,_,_,_⟩:=cells6 BK331.out;obtain ⟨_,_,_,_,_,_,_,_,_,_,_,_⟩:=cells6 BK332.out))
  refine bodyPost_ret (results_ct rfl _ _ gb332 33 #[.int .i64 t334,.int .i64 t335,.slice Ao32 t336.length co32,.slice Ao33 t339.length co33,.slice Ao34 t342.length co34,.slice (some ⟨go23,0,none⟩) t345.length co35] (0,0) _ rfl (by (with_reducible repeat (first|refine blk_drewN ?_ _|refine blk_drew ?_|refine blk_alloc ?_ _));exact blk_puts6 (blk_up BK332.out)) Try.underlying33 rfl (by kernel_rfl)) rfl ?_
  exact ⟨_,_,_,_,er_,by (with_reducible repeat (first|apply Kd.R_alloc|apply Kd.R_drewN|apply Kd.R_drew));exact Kd.R_mono (Kd.R_fars gb332 (Kd.R_types HO338.out BK332.out (by decide)) (fun _ hk => hk.2)) (fun _ hk => ⟨hk.1.1,hk.1.2⟩),by (with_reducible repeat (first|apply Kd.R_alloc|apply Kd.R_drewN|apply Kd.R_drew));exact Kd.R_mono (Kd.R_fars gb332 (Kd.R_types HO341.out BK332.out (by decide)) (fun _ hk => hk.2)) (fun _ hk => ⟨hk.1.1,hk.1.2⟩),by (with_reducible repeat (first|apply Kd.R_alloc|apply Kd.R_drewN|apply Kd.R_drew));exact Kd.R_mono (Kd.R_fars gb332 (Kd.R_types HO344.out BK332.out (by decide)) (fun _ hk => hk.2)) (fun _ hk => ⟨hk.1.1,hk.1.2⟩),by (with_reducible repeat (first|apply Kd.R_alloc|apply Kd.R_drewN|apply Kd.R_drew));exact Kd.R_mono (Kd.R_fars gb332 (Kd.R_types HO347.out BK332.out (by decide)) (fun _ hk => hk.2)) (fun _ hk => trivial),hb_⟩

end Go.Proofs.Ythjmdpekcleihaa.P

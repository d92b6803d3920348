/- Functions of this seat as plain Lean functions, with proofs that the Go code comes to just their answers, or what stands between them and a law's statement; no conditions. (Laid by a program of this session, out of the kit's print.) -/
import Derived.Test.YthjmdpekcleihaaPx0
namespace Go.Proofs.Ythjmdpekcleihaa.P
open Go.RowKit Go.Proofs.YthjmdpekcleihaaW.PrintWords Go.Proofs.YthjmdpekcleihaaW.PrintLast Go.Proofs.YthjmdpekcleihaaW.PrintMore
attribute [local go_sem] max2_int min2_int max_two min_two max_three min_three max_four min_four   -- for this text's walks alone
set_option linter.unusedVariables false
set_option linter.unusedSimpArgs false

/-! ### hinterlandref17_Copy: function 44 -/
def hinterlandref17_Copy.f (a0_0 : Int) (a0_1 : Int) (l0_2 : List Int) (l0_3 : List Int) (l0_4 : List Int) (l0_5 : List (S50)) : Option (Int × Int × List Int × List Int × List Int × (List (S50))) := (some (([] : List Int) : List Int)).bind fun y285 => (if y285.length + l0_2.length < 17592186044416 then ((some (([] : List Int) : List Int)).bind fun y291 => (if y291.length + l0_3.length < 17592186044416 then ((some (([] : List Int) : List Int)).bind fun y297 => (if y297.length + l0_4.length < 17592186044416 then ((some (([] : List (S50)) : List (S50))).bind fun y303 => (if y303.length + l0_5.length < 3518437208883 then (some (a0_0, a0_1, (y285 ++ l0_2), (y291 ++ l0_3), (y297 ++ l0_4), (y303 ++ l0_5))) else (none))) else (none))) else (none))) else (none))
set_option maxHeartbeats 8000000 in
set_option maxRecDepth 100000 in
theorem hinterlandref17_Copy.calls (a0_0 : Int) (a0_1 : Int) (A0_2 : Option Addr) (c0_2 : Nat) (l0_2 : List Int) (A0_3 : Option Addr) (c0_3 : Nat) (l0_3 : List Int) (A0_4 : Option Addr) (c0_4 : Nat) (l0_4 : List Int) (A0_5 : Option Addr) (c0_5 : Nat) (l0_5 : List (S50)) (r1 : Int) (r2 : Int) (r3 : List Int) (r4 : List Int) (r5 : List Int) (r6 : List (S50)) (w : World) (hr0_2 : Kd.C (Kd.int .i64) w A0_2 l0_2.length l0_2) (hc0_2 : l0_2.length ≤ c0_2) (hr0_3 : Kd.C (Kd.int .i64) w A0_3 l0_3.length l0_3) (hc0_3 : l0_3.length ≤ c0_3) (hr0_4 : Kd.C (Kd.int .i64) w A0_4 l0_4.length l0_4) (hc0_4 : l0_4.length ≤ c0_4) (hr0_5 : Kd.C k50 w A0_5 l0_5.length l0_5) (hc0_5 : l0_5.length ≤ c0_5) (h : hinterlandref17_Copy.f a0_0 a0_1 l0_2 l0_3 l0_4 l0_5 = some (r1, r2, r3, r4, r5, r6)) :
  Calls Try.prog 44 #[.agg #[.int .i64 a0_0,.int .i64 a0_1,.slice A0_2 l0_2.length c0_2,.slice A0_3 l0_3.length c0_3,.slice A0_4 l0_4.length c0_4,.slice A0_5 l0_5.length c0_5]] w fun e w' => ∃ v2_ v3_ v4_ v5_ : Value,e = .returned (.agg #[.int .i64 r1,.int .i64 r2,v2_,v3_,v4_,v5_]) ∧ Kd.R (Kd.int .i64) 3 w' w.heap.size (fun k_ => some k_ ≠ (v3_ : Value).ownBlock ∧ some k_ ≠ (v4_ : Value).ownBlock) v2_ r3 ∧ Kd.R (Kd.int .i64) 3 w' w.heap.size (fun k_ => some k_ ≠ (v2_ : Value).ownBlock ∧ some k_ ≠ (v4_ : Value).ownBlock) v3_ r4 ∧ Kd.R (Kd.int .i64) 3 w' w.heap.size (fun k_ => some k_ ≠ (v2_ : Value).ownBlock ∧ some k_ ≠ (v3_ : Value).ownBlock) v4_ r5 ∧ Kd.R k50 50 w' w.heap.size (fun _ => True) v5_ r6 ∧ Below w.heap.size w w':=by
 have hu33:=Try.underlying33
 have HR0_2:=Aside0.mk hr0_2
 have HC0_2:=Aside0.mk hc0_2
 clear hr0_2 hc0_2
 have HR0_3:=Aside0.mk hr0_3
 have HC0_3:=Aside0.mk hc0_3
 clear hr0_3 hc0_3
 have HR0_4:=Aside0.mk hr0_4
 have HC0_4:=Aside0.mk hc0_4
 clear hr0_4 hc0_4
 have HR0_5:=Aside0.mk hr0_5
 have HC0_5:=Aside0.mk hc0_5
 clear hr0_5 hc0_5
 have HB:=Aside0.mk (Below.refl w.heap.size w)
 have H : ((some (([] : List Int) : List Int)).bind fun y285 => (if y285.length + l0_2.length < 17592186044416 then ((some (([] : List Int) : List Int)).bind fun y291 => (if y291.length + l0_3.length < 17592186044416 then ((some (([] : List Int) : List Int)).bind fun y297 => (if y297.length + l0_4.length < 17592186044416 then ((some (([] : List (S50)) : List (S50))).bind fun y303 => (if y303.length + l0_5.length < 3518437208883 then (some (a0_0,a0_1,(y285 ++ l0_2),(y291 ++ l0_3),(y297 ++ l0_4),(y303 ++ l0_5))) else (none))) else (none))) else (none))) else (none))) = some (r1,r2,r3,r4,r5,r6):=h
 clear h
 obtain ⟨y285,hy285⟩ : ∃ y_ : List Int,y_ = (([] : List Int)):=⟨_,rfl⟩
 replace H : (if y285.length + l0_2.length < 17592186044416 then ((some (([] : List Int) : List Int)).bind fun y291 => (if y291.length + l0_3.length < 17592186044416 then ((some (([] : List Int) : List Int)).bind fun y297 => (if y297.length + l0_4.length < 17592186044416 then ((some (([] : List (S50)) : List (S50))).bind fun y303 => (if y303.length + l0_5.length < 3518437208883 then (some (a0_0,a0_1,(y285 ++ l0_2),(y291 ++ l0_3),(y297 ++ l0_4),(y303 ++ l0_5))) else (none))) else (none))) else (none))) else (none)) = some (r1,r2,r3,r4,r5,r6):=by first|(rw [hy285];with_reducible exact H)|(have H2_:=(Option.bind_some _ _).symm.trans H;rw [hy285];with_reducible exact H2_)|(have H2_:=(Option.bind_some _ _).symm.trans H;with_reducible exact H2_)|with_reducible exact H|(rw [hy285];exact H)|exact H
 have Ny285:=Aside0.mk hy285
 clear hy285
 replace H:=ifp_ H;obtain ⟨c2,H⟩:=H
 have LMc2:=Aside0.mk c2
 clear c2
 obtain ⟨y288,hy288⟩ : ∃ y_ : List Int,y_ = (y285 ++ l0_2):=⟨_,rfl⟩
 replace H : ((some (([] : List Int) : List Int)).bind fun y291 => (if y291.length + l0_3.length < 17592186044416 then ((some (([] : List Int) : List Int)).bind fun y297 => (if y297.length + l0_4.length < 17592186044416 then ((some (([] : List (S50)) : List (S50))).bind fun y303 => (if y303.length + l0_5.length < 3518437208883 then (some (a0_0,a0_1,y288,(y291 ++ l0_3),(y297 ++ l0_4),(y303 ++ l0_5))) else (none))) else (none))) else (none))) = some (r1,r2,r3,r4,r5,r6):=by first|(rw [hy288];with_reducible exact H)|(have H2_:=(Option.bind_some _ _).symm.trans H;rw [hy288];with_reducible exact H2_)|(have H2_:=(Option.bind_some _ _).symm.trans H;with_reducible exact H2_)|with_reducible exact H|(rw [hy288];exact H)|exact H
 have Ny288:=Aside0.mk hy288
 clear hy288
 obtain ⟨y291,hy291⟩ : ∃ y_ : List Int,y_ = (([] : List Int)):=⟨_,rfl⟩
 replace H : (if y291.length + l0_3.length < 17592186044416 then ((some (([] : List Int) : List Int)).bind fun y297 => (if y297.length + l0_4.length < 17592186044416 then ((some (([] : List (S50)) : List (S50))).bind fun y303 => (if y303.length + l0_5.length < 3518437208883 then (some (a0_0,a0_1,y288,(y291 ++ l0_3),(y297 ++ l0_4),(y303 ++ l0_5))) else (none))) else (none))) else (none)) = some (r1,r2,r3,r4,r5,r6):=by first|(rw [hy291];with_reducible exact H)|(have H2_:=(Option.bind_some _ _).symm.trans H;rw [hy291];with_reducible exact H2_)|(have H2_:=(Option.bind_some _ _).symm.trans H;with_reducible exact H2_)|with_reducible exact H|(rw [hy291];exact H)|exact H
 have Ny291:=Aside0.mk hy291
 clear hy291
 replace H:=ifp_ H;obtain ⟨c3,H⟩:=H
 have LMc3:=Aside0.mk c3
 clear c3
 obtain ⟨y294,hy294⟩ : ∃ y_ : List Int,y_ = (y291 ++ l0_3):=⟨_,rfl⟩
 replace H : ((some (([] : List Int) : List Int)).bind fun y297 => (if y297.length + l0_4.length < 17592186044416 then ((some (([] : List (S50)) : List (S50))).bind fun y303 => (if y303.length + l0_5.length < 3518437208883 then (some (a0_0,a0_1,y288,y294,(y297 ++ l0_4),(y303 ++ l0_5))) else (none))) else (none))) = some (r1,r2,r3,r4,r5,r6):=by first|(rw [hy294];with_reducible exact H)|(have H2_:=(Option.bind_some _ _).symm.trans H;rw [hy294];with_reducible exact H2_)|(have H2_:=(Option.bind_some _ _).symm.trans H;with_reducible exact H2_)|with_reducible exact H|(rw [hy294];exact H)|exact H
 have Ny294:=Aside0.mk hy294
 clear hy294
 obtain ⟨y297,hy297⟩ : ∃ y_ : List Int,y_ = (([] : List Int)):=⟨_,rfl⟩
 replace H : (if y297.length + l0_4.length < 17592186044416 then ((some (([] : List (S50)) : List (S50))).bind fun y303 => (if y303.length + l0_5.length < 3518437208883 then (some (a0_0,a0_1,y288,y294,(y297 ++ l0_4),(y303 ++ l0_5))) else (none))) else (none)) = some (r1,r2,r3,r4,r5,r6):=by first|(rw [hy297];with_reducible exact H)|(have H2_:=(Option.bind_some _ _).symm.trans H;rw [hy297];with_reducible exact H2_)|(have H2_:=(Option.bind_some _ _).symm.trans H;with_reducible exact H2_)|with_reducible exact H|(rw [hy297];exact H)|exact H
 have Ny297:=Aside0.mk hy297
 clear hy297
 replace H:=ifp_ H;obtain ⟨c4,H⟩:=H
 have LMc4:=Aside0.mk c4
 clear c4
 obtain ⟨y300,hy300⟩ : ∃ y_ : List Int,y_ = (y297 ++ l0_4):=⟨_,rfl⟩
 replace H : ((some (([] : List (S50)) : List (S50))).bind fun y303 => (if y303.length + l0_5.length < 3518437208883 then (some (a0_0,a0_1,y288,y294,y300,(y303 ++ l0_5))) else (none))) = some (r1,r2,r3,r4,r5,r6):=by first|(rw [hy300];with_reducible exact H)|(have H2_:=(Option.bind_some _ _).symm.trans H;rw [hy300];with_reducible exact H2_)|(have H2_:=(Option.bind_some _ _).symm.trans H;with_reducible exact H2_)|with_reducible exact H|(rw [hy300];exact H)|exact H
 have Ny300:=Aside0.mk hy300
 clear hy300
 obtain ⟨y303,hy303⟩ : ∃ y_ : List (S50),y_ = (([] : List (S50))):=⟨_,rfl⟩
 replace H : (if y303.length + l0_5.length < 3518437208883 then (some (a0_0,a0_1,y288,y294,y300,(y303 ++ l0_5))) else (none)) = some (r1,r2,r3,r4,r5,r6):=by first|(rw [hy303];with_reducible exact H)|(have H2_:=(Option.bind_some _ _).symm.trans H;rw [hy303];with_reducible exact H2_)|(have H2_:=(Option.bind_some _ _).symm.trans H;with_reducible exact H2_)|with_reducible exact H|(rw [hy303];exact H)|exact H
 have Ny303:=Aside0.mk hy303
 clear hy303
 replace H:=ifp_ H;obtain ⟨c5,H⟩:=H
 have LMc5:=Aside0.mk c5
 clear c5
 obtain ⟨y306,hy306⟩ : ∃ y_ : List (S50),y_ = (y303 ++ l0_5):=⟨_,rfl⟩
 replace H : (some (a0_0,a0_1,y288,y294,y300,y306)) = some (r1,r2,r3,r4,r5,r6):=by first|(rw [hy306];with_reducible exact H)|(have H2_:=(Option.bind_some _ _).symm.trans H;rw [hy306];with_reducible exact H2_)|(have H2_:=(Option.bind_some _ _).symm.trans H;with_reducible exact H2_)|with_reducible exact H|(rw [hy306];exact H)|exact H
 have Ny306:=Aside0.mk hy306
 clear hy306
 simp only [Option.some.injEq,Prod.mk.injEq] at H
 obtain ⟨rfl,rfl,rfl,rfl,rfl,rfl⟩:=H
 go_enter Try.func44,Try.ntmps44
 go_wp2_with (first|((with_reducible refine gate_dst (N:=1) rfl ?_);refine box_ev (N:=1) (cs:=#[.int .i64 a0_0,.int .i64 a0_1,.slice A0_2 l0_2.length c0_2,.slice A0_3 l0_3.length c0_3,.slice A0_4 l0_4.length c0_4,.slice A0_5 l0_5.length c0_5]) (t:=33) ?_;intro gb283 hg w6 hbox hb;have BK283:=Aside0.mk (hbox);have GW283 : Aside0 (w.heap.size ≤ gb283):=gsz hg;have GE283:=GW283;replace HB:=hbs hb;clear hb hbox hg)|((with_reducible refine gate_dst (N:=2) rfl ?_);refine box_ev (N:=2) (cs:=#[.int .i64 0,.int .i64 0,.slice none 0 0,.slice none 0 0,.slice none 0 0,.slice none 0 0]) (t:=33) ?_;intro gb284 hg w7 hbox hb;have BK284:=Aside0.mk (hbox);have GW284 : Aside0 (w.heap.size ≤ gb284):=gsz hg;have GE284:=GW284;have NB283_284:=nbl BK283 hg;have NB284_283:=nbr BK283 hg;replace BK283:=bkb BK283 hb;replace HB:=hbs hb;clear hb hbox hg)|((with_reducible refine gate_dst (N:=3) rfl ?_);refine Kd.R_lit (Kd.int .i64) _ 3 ?hg (N:=3) ?hd (xs:=([] : List Int)) (inner:=[]) (ok:=fun _ => True) (okp:=fun _ => True) ?hr ?hp (fun _ hk => hk) trivial (Below.refl _ _) (Nat.le_refl _) (by simp) ?_;(case hd => rfl);(case hg => rfl);(case hr => first|(go_simp;done)|(go_simp;rfl));(case hp => exact (Reps.none _ _));intro v286 w8 ho9 hb hg_ hnew_;clear hg_ hnew_;(first|rw [← Ny285.out] at ho9|(simp only [Int.reduceToNat] at ho9;rw [← Ny285.out] at ho9));have HO287:=rlo ho9;replace BK283:=bkb BK283 hb;replace BK284:=bkb BK284 hb;replace HB:=hbs hb;clear hb ho9;have hnb10:=NB283_284.out;have hnc10:=NB284_283.out;obtain ⟨_,_,_,_,_,_,_,_,_,_,_,_⟩:=cells6 BK283.out)|((with_reducible refine gate_builtin (b:=.append) (xs:=#[.tmp 3,.tmp 6]) rfl ?_);at_builtin;refine Kd.R_append_rows (Kd.int .i64) (w0:=w) w.heap.size rfl (.tmp 3) (.tmp 6) 22 3 (.int .i64 0) 8 rfl Try.underlying22 info3 rfl (by decide) (by omega) v286 y285 l0_2 _ _ _ (fun _ => True) (fun _ => False) rfl rfl ?aO ?aR (fun _ _ h => h) (fun _ h => h.elim) ?aF ?aB ?aS ?aL ?_;(case aR => exact Kd.C_up (Kd.C_below HR0_2.out HB.out));(case aB => exact (hb_));(case aF => exact (fun _ _ => trivial));(case aO => exact (Kd.R_up HO287.out));(case aS => exact (below_size (hb_)));(case aL => have:=LMc2.out;omega);intro v289 w12 ho hb hg hat;rw [← Ny288.out] at ho;have HO290:=Aside0.mk (ho);replace BK283:=Aside0.mk (blk_grown (blk_up BK283.out) hg (Kd.R_ne HO287.out BK283.out (by decide)));replace BK284:=Aside0.mk (blk_grown (blk_up BK284.out) hg (Kd.R_ne HO287.out BK284.out (by decide)));replace HB:=Aside0.mk (hb);clear HO287;clear ho hb hg hat;obtain ⟨Ao13,co13,eo13⟩:=Kd.R_slice HO290.out;subst eo13;obtain ⟨_,_,_,_,_,_,_,_,_,_,_,_⟩:=cells6 BK283.out)|((with_reducible refine gate_dst (N:=10) rfl ?_);refine Kd.R_lit (Kd.int .i64) _ 3 ?hg (N:=10) ?hd (xs:=([] : List Int)) (inner:=[]) (ok:=fun _ => True) (okp:=fun _ => True) ?hr ?hp (fun _ hk => hk) trivial (Below.refl _ _) (Nat.le_refl _) (by simp) ?_;(case hd => rfl);(case hg => rfl);(case hr => first|(go_simp;done)|(go_simp;rfl));(case hp => exact (Reps.none _ _));intro v292 w15 ho16 hb hg_ hnew_;clear hg_ hnew_;(first|rw [← Ny291.out] at ho16|(simp only [Int.reduceToNat] at ho16;rw [← Ny291.out] at ho16));have HO293:=Aside0.mk (Kd.R_lower (Kd.R_new' ho16 (Kd.R_lt (by (with_reducible repeat (first|apply Kd.R_alloc|apply Kd.R_drewN|apply Kd.R_drew));exact (Kd.R_mono (Kd.R_far (p:=⟨gb283,2,none⟩) (Kd.R_types HO290.out BK283.out (by decide)) (fun _ hk => hk.2) (.slice Ao13 y288.length co13)) (fun _ h_ => h_.1))))) (below_size (hb_)));replace HO290:=Aside0.mk (Kd.R_elder' (by (with_reducible repeat (first|apply Kd.R_alloc|apply Kd.R_drewN|apply Kd.R_drew));exact (Kd.R_mono (Kd.R_far (p:=⟨gb283,2,none⟩) (Kd.R_types HO290.out BK283.out (by decide)) (fun _ hk => hk.2) (.slice Ao13 y288.length co13)) (fun _ h_ => h_.1))) (Kd.R_base ho16) hb);replace BK283:=Aside0.mk (blk_below (g:=gb283) (o:=.cells #[.int .i64 a0_0,.int .i64 a0_1,.slice Ao13 y288.length co13,.slice A0_3 l0_3.length c0_3,.slice A0_4 l0_4.length c0_4,.slice A0_5 l0_5.length c0_5] 33 (0,0)) (by (with_reducible repeat (first|refine blk_drewN ?_ _|refine blk_drew ?_|refine blk_alloc ?_ _));refine blk_put (cs:=#[.int .i64 a0_0,.int .i64 a0_1,.slice A0_2 l0_2.length c0_2,.slice A0_3 l0_3.length c0_3,.slice A0_4 l0_4.length c0_4,.slice A0_5 l0_5.length c0_5]) ?_ 2 _ rfl;(with_reducible repeat (first|refine blk_drewN ?_ _|refine blk_drew ?_|refine blk_alloc ?_ _));exact BK283.out) hb);replace BK284:=Aside0.mk (blk_below (g:=gb284) (o:=.cells #[.int .i64 0,.int .i64 0,.slice none 0 0,.slice none 0 0,.slice none 0 0,.slice none 0 0] 33 (0,0)) (by (with_reducible repeat (first|refine blk_drewN ?_ _|refine blk_drew ?_|refine blk_alloc ?_ _));refine blk_far ?_ NB284_283.out _;(with_reducible repeat (first|refine blk_drewN ?_ _|refine blk_drew ?_|refine blk_alloc ?_ _));exact BK284.out) hb);replace HB:=hbs hb;clear hb ho16;obtain ⟨_,_,_,_,_,_,_,_,_,_,_,_⟩:=cells6 BK283.out)|((with_reducible refine gate_builtin (b:=.append) (xs:=#[.tmp 10,.tmp 13]) rfl ?_);at_builtin;refine Kd.R_append_rows (Kd.int .i64) (w0:=w) w.heap.size rfl (.tmp 10) (.tmp 13) 22 3 (.int .i64 0) 8 rfl Try.underlying22 info3 rfl (by decide) (by omega) v292 y291 l0_3 _ _ _ (fun k_ => some k_ ≠ (.slice Ao13 y288.length co13 : Value).ownBlock) (fun _ => False) rfl rfl ?aO ?aR (fun _ _ h => h) (fun _ h => h.elim) ?aF ?aB ?aS ?aL ?_;(case aR => exact Kd.C_up (Kd.C_below HR0_3.out HB.out));(case aB => exact (hb_));(case aF => exact (fun k_ hk => Kd.fresh' (Kd.R_lt (Kd.R_up HO290.out)) k_ hk));(case aO => exact (by (with_reducible repeat (first|apply Kd.R_alloc|apply Kd.R_drewN|apply Kd.R_drew));exact Kd.R_mono HO293.out (fun _ hk => hk.2)));(case aS => exact (below_size (hb_)));(case aL => have:=LMc3.out;omega);intro v295 w18 ho hb hg hat;rw [← Ny294.out] at ho;have HO296:=Aside0.mk (ho);replace BK283:=Aside0.mk (blk_grown (blk_up BK283.out) hg (Kd.R_ne HO293.out BK283.out (by decide)));replace BK284:=Aside0.mk (blk_grown (blk_up BK284.out) hg (Kd.R_ne HO293.out BK284.out (by decide)));replace HO290:=Aside0.mk (Kd.R_after (ok:=(fun _ => True)) (Kd.R_up HO290.out) hg hat);replace HB:=Aside0.mk (hb);clear HO293;clear ho hb hg hat;obtain ⟨Ao19,co19,eo19⟩:=Kd.R_slice HO296.out;subst eo19;obtain ⟨_,_,_,_,_,_,_,_,_,_,_,_⟩:=cells6 BK283.out)|((with_reducible refine gate_dst (N:=17) rfl ?_);refine Kd.R_lit (Kd.int .i64) _ 3 ?hg (N:=17) ?hd (xs:=([] : List Int)) (inner:=[]) (ok:=fun _ => True) (okp:=fun _ => True) ?hr ?hp (fun _ hk => hk) trivial (Below.refl _ _) (Nat.le_refl _) (by simp) ?_;(case hd => rfl);(case hg => rfl);(case hr => first|(go_simp;done)|(go_simp;rfl));(case hp => exact (Reps.none _ _));intro v298 w21 ho22 hb hg_ hnew_;clear hg_ hnew_;(first|rw [← Ny297.out] at ho22|(simp only [Int.reduceToNat] at ho22;rw [← Ny297.out] at ho22));have HO299:=Aside0.mk (Kd.R_lower (Kd.R_new' (Kd.R_new' ho22 (Kd.R_lt (by (with_reducible repeat (first|apply Kd.R_alloc|apply Kd.R_drewN|apply Kd.R_drew));exact (Kd.R_mono (Kd.R_far (p:=⟨gb283,3,none⟩) (Kd.R_types HO290.out BK283.out (by decide)) (fun _ hk => hk.2) (.slice Ao19 y294.length co19)) (fun _ h_ => h_.1))))) (Kd.R_lt (by (with_reducible repeat (first|apply Kd.R_alloc|apply Kd.R_drewN|apply Kd.R_drew));exact (Kd.R_mono (Kd.R_far (p:=⟨gb283,3,none⟩) (Kd.R_types HO296.out BK283.out (by decide)) (fun _ hk => hk.2) (.slice Ao19 y294.length co19)) (fun _ h_ => h_.1))))) (below_size (hb_)));replace HO290:=Aside0.mk (Kd.R_elder' (by (with_reducible repeat (first|apply Kd.R_alloc|apply Kd.R_drewN|apply Kd.R_drew));exact (Kd.R_mono (Kd.R_far (p:=⟨gb283,3,none⟩) (Kd.R_types HO290.out BK283.out (by decide)) (fun _ hk => hk.2) (.slice Ao19 y294.length co19)) (fun _ h_ => h_.1))) (Kd.R_base ho22) hb);replace HO296:=Aside0.mk (Kd.R_elder' (by (with_reducible repeat (first|apply Kd.R_alloc|apply Kd.R_drewN|apply Kd.R_drew));exact (Kd.R_mono (Kd.R_far (p:=⟨gb283,3,none⟩) (Kd.R_types HO296.out BK283.out (by decide)) (fun _ hk => hk.2) (.slice Ao19 y294.length co19)) (fun _ h_ => h_.1))) (Kd.R_base ho22) hb);replace BK283:=Aside0.mk (blk_below (g:=gb283) (o:=.cells #[.int .i64 a0_0,.int .i64 a0_1,.slice Ao13 y288.length co13,.slice Ao19 y294.length co19,.slice A0_4 l0_4.length c0_4,.slice A0_5 l0_5.length c0_5] 33 (0,0)) (by (with_reducible repeat (first|refine blk_drewN ?_ _|refine blk_drew ?_|refine blk_alloc ?_ _));refine blk_put (cs:=#[.int .i64 a0_0,.int .i64 a0_1,.slice Ao13 y288.length co13,.slice A0_3 l0_3.length c0_3,.slice A0_4 l0_4.length c0_4,.slice A0_5 l0_5.length c0_5]) ?_ 3 _ rfl;(with_reducible repeat (first|refine blk_drewN ?_ _|refine blk_drew ?_|refine blk_alloc ?_ _));exact BK283.out) hb);replace BK284:=Aside0.mk (blk_below (g:=gb284) (o:=.cells #[.int .i64 0,.int .i64 0,.slice none 0 0,.slice none 0 0,.slice none 0 0,.slice none 0 0] 33 (0,0)) (by (with_reducible repeat (first|refine blk_drewN ?_ _|refine blk_drew ?_|refine blk_alloc ?_ _));refine blk_far ?_ NB284_283.out _;(with_reducible repeat (first|refine blk_drewN ?_ _|refine blk_drew ?_|refine blk_alloc ?_ _));exact BK284.out) hb);replace HB:=hbs hb;clear hb ho22;obtain ⟨_,_,_,_,_,_,_,_,_,_,_,_⟩:=cells6 BK283.out)|((with_reducible refine gate_builtin (b:=.append) (xs:=#[.tmp 17,.tmp 19]) rfl ?_);at_builtin;refine Kd.R_append_rows (Kd.int .i64) (w0:=w) w.heap.size rfl (.tmp 17) (.tmp 19) 22 3 (.int .i64 0) 8 rfl Try.underlying22 info3 rfl (by decide) (by omega) v298 y297 l0_4 _ _ _ (fun k_ => some k_ ≠ (.slice Ao13 y288.length co13 : Value).ownBlock ∧ some k_ ≠ (.slice Ao19 y294.length co19 : Value).ownBlock) (fun _ => False) rfl rfl ?aO ?aR (fun _ _ h => h) (fun _ h => h.elim) ?aF ?aB ?aS ?aL ?_;(case aR => exact Kd.C_up (Kd.C_below HR0_4.out HB.out));(case aB => exact (hb_));(case aF => exact (fun k_ hk => ⟨Kd.fresh' (Kd.R_lt (Kd.R_up HO290.out)) k_ hk,Kd.fresh' (Kd.R_lt (Kd.R_up HO296.out)) k_ hk⟩));(case aO => exact (by (with_reducible repeat (first|apply Kd.R_alloc|apply Kd.R_drewN|apply Kd.R_drew));exact Kd.R_mono HO299.out (fun _ hk => ⟨hk.1.2,hk.2⟩)));(case aS => exact (below_size (hb_)));(case aL => have:=LMc4.out;omega);intro v301 w24 ho hb hg hat;rw [← Ny300.out] at ho;have HO302:=Aside0.mk (ho);replace BK283:=Aside0.mk (blk_grown (blk_up BK283.out) hg (Kd.R_ne HO299.out BK283.out (by decide)));replace BK284:=Aside0.mk (blk_grown (blk_up BK284.out) hg (Kd.R_ne HO299.out BK284.out (by decide)));replace HO290:=Aside0.mk (Kd.R_after (ok:=(fun k_ => some k_ ≠ (.slice Ao19 y294.length co19 : Value).ownBlock)) (by (with_reducible repeat (first|apply Kd.R_alloc|apply Kd.R_drewN|apply Kd.R_drew));exact Kd.R_mono HO290.out (fun _ hk => ⟨hk.1.2,hk.2⟩)) hg hat);replace HO296:=Aside0.mk (Kd.R_after (ok:=(fun k_ => some k_ ≠ (.slice Ao13 y288.length co13 : Value).ownBlock)) (Kd.R_up HO296.out) hg hat);replace HB:=Aside0.mk (hb);clear HO299;clear ho hb hg hat;obtain ⟨Ao25,co25,eo25⟩:=Kd.R_slice HO302.out;subst eo25;obtain ⟨_,_,_,_,_,_,_,_,_,_,_,_⟩:=cells6 BK283.out)|((with_reducible refine gate_dst (N:=22) rfl ?_);refine Kd.R_lit k50 _ 50 ?hg (N:=22) ?hd (xs:=([] : List (S50))) (inner:=[]) (ok:=fun _ => True) (okp:=fun _ => True) ?hr ?hp (fun _ hk => hk) trivial (Below.refl _ _) (Nat.le_refl _) (by simp) ?_;(case hd => rfl);(case hg => rfl);(case hr => first|(go_simp;done)|(go_simp;rfl));(case hp => exact (Reps.none _ _));intro v304 w27 ho28 hb hg_ hnew_;clear hg_ hnew_;(first|rw [← Ny303.out] at ho28|(simp only [Int.reduceToNat] at ho28;rw [← Ny303.out] at ho28));have HO305:=rlo ho28;replace HO290:=Aside0.mk (Kd.R_below (by (with_reducible repeat (first|apply Kd.R_alloc|apply Kd.R_drewN|apply Kd.R_drew));exact (Kd.R_mono (Kd.R_far (p:=⟨gb283,4,none⟩) (Kd.R_types HO290.out BK283.out (by decide)) (fun _ hk => hk.2) (.slice Ao25 y300.length co25)) (fun _ h_ => h_.1))) hb);replace HO296:=Aside0.mk (Kd.R_below (by (with_reducible repeat (first|apply Kd.R_alloc|apply Kd.R_drewN|apply Kd.R_drew));exact (Kd.R_mono (Kd.R_far (p:=⟨gb283,4,none⟩) (Kd.R_types HO296.out BK283.out (by decide)) (fun _ hk => hk.2) (.slice Ao25 y300.length co25)) (fun _ h_ => h_.1))) hb);replace HO302:=Aside0.mk (Kd.R_below (by (with_reducible repeat (first|apply Kd.R_alloc|apply Kd.R_drewN|apply Kd.R_drew));exact (Kd.R_mono (Kd.R_far (p:=⟨gb283,4,none⟩) (Kd.R_types HO302.out BK283.out (by decide)) (fun _ hk => hk.2) (.slice Ao25 y300.length co25)) (fun _ h_ => h_.1))) hb);replace BK283:=Aside0.mk (blk_below (g:=gb283) (o:=.cells #[.int .i64 a0_0,.int .i64 a0_1,.slice Ao13 y288.length co13,.slice Ao19 y294.length co19,.slice Ao25 y300.length co25,.slice A0_5 l0_5.length c0_5] 33 (0,0)) (by (with_reducible repeat (first|refine blk_drewN ?_ _|refine blk_drew ?_|refine blk_alloc ?_ _));refine blk_put (cs:=#[.int .i64 a0_0,.int .i64 a0_1,.slice Ao13 y288.length co13,.slice Ao19 y294.length co19,.slice A0_4 l0_4.length c0_4,.slice A0_5 l0_5.length c0_5]) ?_ 4 _ rfl;(with_reducible repeat (first|refine blk_drewN ?_ _|refine blk_drew ?_|refine blk_alloc ?_ _));exact BK283.out) hb);replace BK284:=Aside0.mk (blk_below (g:=gb284) (o:=.cells #[.int .i64 0,.int .i64 0,.slice none 0 0,.slice none 0 0,.slice none 0 0,.slice none 0 0] 33 (0,0)) (by (with_reducible repeat (first|refine blk_drewN ?_ _|refine blk_drew ?_|refine blk_alloc ?_ _));refine blk_far ?_ NB284_283.out _;(with_reducible repeat (first|refine blk_drewN ?_ _|refine blk_drew ?_|refine blk_alloc ?_ _));exact BK284.out) hb);replace HB:=hbs hb;clear hb ho28;obtain ⟨_,_,_,_,_,_,_,_,_,_,_,_⟩:=cells6 BK283.out)|((with_reducible refine gate_builtin (b:=.append) (xs:=#[.tmp 22,.tmp 24]) rfl ?_);at_builtin;refine Kd.R_append_rows k50 (w0:=w) w.heap.size rfl (.tmp 22) (.tmp 24) 31 50 (.agg #[(.int .i64 0),(.int .i64 0),(.int .i64 0),(.int .i64 0),(.int .i64 0)]) 40 rfl Try.underlying31 info50 rfl (by decide) (by omega) v304 y303 l0_5 _ _ _ (fun _ => True) (fun _ => False) rfl rfl ?aO ?aR (fun _ _ h => h) (fun _ h => h.elim) ?aF ?aB ?aS ?aL ?_;(case aR => exact Kd.C_up (Kd.C_below HR0_5.out HB.out));(case aB => exact (hb_));(case aF => exact (fun _ _ => trivial));(case aO => exact (Kd.R_up HO305.out));(case aS => exact (below_size (hb_)));(case aL => have:=LMc5.out;omega);intro v307 w30 ho hb hg hat;rw [← Ny306.out] at ho;have HO308:=Aside0.mk (ho);replace BK283:=Aside0.mk (blk_grown (blk_up BK283.out) hg (Kd.R_ne HO305.out BK283.out (by decide)));replace BK284:=Aside0.mk (blk_grown (blk_up BK284.out) hg (Kd.R_ne HO305.out BK284.out (by decide)));replace HO290:=Aside0.mk (Kd.R_over' (Kd.R_up HO290.out) (Kd.R_typed (Kd.R_up HO305.out)) (by decide) hg);replace HO296:=Aside0.mk (Kd.R_over' (Kd.R_up HO296.out) (Kd.R_typed (Kd.R_up HO305.out)) (by decide) hg);replace HO302:=Aside0.mk (Kd.R_over' (Kd.R_up HO302.out) (Kd.R_typed (Kd.R_up HO305.out)) (by decide) hg);replace HB:=Aside0.mk (hb);clear HO305;clear ho hb hg hat;obtain ⟨Ao31,co31,eo31⟩:=Kd.R_slice HO308.out;subst eo31;obtain ⟨_,_,_,_,_,_,_,_,_,_,_,_⟩:=cells6 BK283.out;obtain ⟨_,_,_,_,_,_,_,_,_,_,_,_⟩:=cells6 BK284.out))
 refine bodyPost_ret (results_cell_row rfl _ _ gb284 33 #[.int .i64 a0_0,.int .i64 a0_1,.slice Ao13 y288.length co13,.slice Ao19 y294.length co19,.slice Ao25 y300.length co25,.slice Ao31 y306.length co31] (0,0) _ rfl (by (with_reducible repeat (first|refine blk_drewN ?_ _|refine blk_drew ?_|refine blk_alloc ?_ _));refine blk_put (cs:=#[.int .i64 a0_0,.int .i64 a0_1,.slice Ao13 y288.length co13,.slice Ao19 y294.length co19,.slice Ao25 y300.length co25,.slice none 0 0]) ?_ 5 _ rfl;(with_reducible repeat (first|refine blk_drewN ?_ _|refine blk_drew ?_|refine blk_alloc ?_ _));refine blk_put (cs:=#[.int .i64 a0_0,.int .i64 a0_1,.slice Ao13 y288.length co13,.slice Ao19 y294.length co19,.slice none 0 0,.slice none 0 0]) ?_ 4 _ rfl;(with_reducible repeat (first|refine blk_drewN ?_ _|refine blk_drew ?_|refine blk_alloc ?_ _));refine blk_put (cs:=#[.int .i64 a0_0,.int .i64 a0_1,.slice Ao13 y288.length co13,.slice none 0 0,.slice none 0 0,.slice none 0 0]) ?_ 3 _ rfl;(with_reducible repeat (first|refine blk_drewN ?_ _|refine blk_drew ?_|refine blk_alloc ?_ _));refine blk_put (cs:=#[.int .i64 a0_0,.int .i64 a0_1,.slice none 0 0,.slice none 0 0,.slice none 0 0,.slice none 0 0]) ?_ 2 _ rfl;(with_reducible repeat (first|refine blk_drewN ?_ _|refine blk_drew ?_|refine blk_alloc ?_ _));refine blk_put (cs:=#[.int .i64 a0_0,.int .i64 0,.slice none 0 0,.slice none 0 0,.slice none 0 0,.slice none 0 0]) ?_ 1 _ rfl;(with_reducible repeat (first|refine blk_drewN ?_ _|refine blk_drew ?_|refine blk_alloc ?_ _));refine blk_put (cs:=#[.int .i64 0,.int .i64 0,.slice none 0 0,.slice none 0 0,.slice none 0 0,.slice none 0 0]) ?_ 0 _ rfl;(with_reducible repeat (first|refine blk_drewN ?_ _|refine blk_drew ?_|refine blk_alloc ?_ _));refine blk_far ?_ NB284_283.out _;(with_reducible repeat (first|refine blk_drewN ?_ _|refine blk_drew ?_|refine blk_alloc ?_ _));exact BK284.out) Try.underlying33 rfl (by kernel_rfl)) rfl ?_
 exact ⟨_,_,_,_,er_,by (with_reducible repeat (first|apply Kd.R_alloc|apply Kd.R_drewN|apply Kd.R_drew));exact Kd.R_mono (Kd.R_fars gb284 (Kd.R_far (p:=⟨gb283,5,none⟩) (Kd.R_types (Kd.R_types HO290.out BK283.out (by decide)) BK284.out (by decide)) (fun _ hk => hk.1.2) (.slice Ao31 y306.length co31)) (fun _ hk => hk.2)) (fun _ hk => ⟨hk.1.1.1,hk.1.1.2⟩),by (with_reducible repeat (first|apply Kd.R_alloc|apply Kd.R_drewN|apply Kd.R_drew));exact Kd.R_mono (Kd.R_fars gb284 (Kd.R_far (p:=⟨gb283,5,none⟩) (Kd.R_types (Kd.R_types HO296.out BK283.out (by decide)) BK284.out (by decide)) (fun _ hk => hk.1.2) (.slice Ao31 y306.length co31)) (fun _ hk => hk.2)) (fun _ hk => ⟨hk.1.1.1,hk.1.1.2⟩),by (with_reducible repeat (first|apply Kd.R_alloc|apply Kd.R_drewN|apply Kd.R_drew));exact Kd.R_mono (Kd.R_fars gb284 (Kd.R_far (p:=⟨gb283,5,none⟩) (Kd.R_types (Kd.R_types HO302.out BK283.out (by decide)) BK284.out (by decide)) (fun _ hk => hk.1.2) (.slice Ao31 y306.length co31)) (fun _ hk => hk.2)) (fun _ hk => ⟨hk.1.1.1,hk.1.1.2⟩),by (with_reducible repeat (first|apply Kd.R_alloc|apply Kd.R_drewN|apply Kd.R_drew));exact Kd.R_mono (Kd.R_fars gb284 (Kd.R_far (p:=⟨gb283,5,none⟩) (Kd.R_types (Kd.R_types HO308.out BK283.out (by decide)) BK284.out (by decide)) (fun _ hk => hk.1.2) (.slice Ao31 y306.length co31)) (fun _ hk => hk.2)) (fun _ hk => trivial),hb_⟩

/-! ### lane_held: function 45 -/
def lane_held.l0 : Nat → Int → List (S50) → Int → Int → Int → Int → Option (Bool)
 | 0,_,_,_,_,_,_ => none
 | k + 1,x1,x10,x11,x12,x351000,x351001 => if x12 < x11 then (if 0 ≤ x12 then (if x12 < (x10.length : Int) then (if x12 = x1 then (lane_held.l0 k x1 x10 x11 (wrap64 (x12 + 1)) x351000 x351001) else (if ((rd_T50 x10 x12).f0) = x351000 then (if ((rd_T50 x10 x12).f2) = x351001 then (some true) else (lane_held.l0 k x1 x10 x11 (wrap64 (x12 + 1)) x351000 x351001)) else (lane_held.l0 k x1 x10 x11 (wrap64 (x12 + 1)) x351000 x351001))) else (none)) else (none)) else (some false)
def lane_held.f (k : Nat) (a0_0 : Int) (a0_1 : Int) (l0_2 : List Int) (l0_3 : List Int) (l0_4 : List Int) (l0_5 : List (S50)) (a1 : Int) (a2_0 : Int) (a2_1 : Int) : Option (Bool) := lane_held.l0 k a1 l0_5 (l0_5.length : Int) 0 a2_0 a2_1
theorem lane_held.mono_l : ∀ k, (∀ y0 y1 y2 y3 y4 y5, LeO (lane_held.l0 k y0 y1 y2 y3 y4 y5) (lane_held.l0 (k + 1) y0 y1 y2 y3 y4 y5))
 | 0 => fun _ _ _ _ _ _ r h => by simp [lane_held.l0] at h
 | k + 1 => by
  have ih0:=lane_held.mono_l k
  ·intro y0 y1 y2 y3 y4 y5
   unfold lane_held.l0
   repeat' first
   | (with_reducible exact ih0 _ _ _ _ _ _)
   | (with_reducible exact LeO.refl _)
   | (with_reducible exact LeO.none _)
   | (with_reducible refine LeO.ite ?_ ?_)
   | (with_reducible refine LeO.bind ?_ (fun _ => ?_))
   | exact ih0 _ _ _ _ _ _
   | exact LeO.none _
   | refine LeO.ite ?_ ?_
   | refine LeO.bind ?_ (fun _ => ?_)
theorem lane_held.mono : ∀ a0 a1 a2 a3 a4 a5 a6 a7 a8 k, LeO (lane_held.f k a0 a1 a2 a3 a4 a5 a6 a7 a8) (lane_held.f (k + 1) a0 a1 a2 a3 a4 a5 a6 a7 a8) := by
 intro a0 a1 a2 a3 a4 a5 a6 a7 a8 k
 have ih0:=lane_held.mono_l k
 unfold lane_held.f
 repeat' first
   | (with_reducible exact ih0 _ _ _ _ _ _)
   | (with_reducible exact LeO.refl _)
   | (with_reducible exact LeO.none _)
   | (with_reducible refine LeO.ite ?_ ?_)
   | (with_reducible refine LeO.bind ?_ (fun _ => ?_))
   | exact ih0 _ _ _ _ _ _
   | exact LeO.none _
   | refine LeO.ite ?_ ?_
   | refine LeO.bind ?_ (fun _ => ?_)
set_option maxHeartbeats 8000000 in
set_option maxRecDepth 100000 in
theorem lane_held.calls (k : Nat) (a0_0 : Int) (a0_1 : Int) (A0_2 : Option Addr) (c0_2 : Nat) (l0_2 : List Int) (A0_3 : Option Addr) (c0_3 : Nat) (l0_3 : List Int) (A0_4 : Option Addr) (c0_4 : Nat) (l0_4 : List Int) (A0_5 : Option Addr) (c0_5 : Nat) (l0_5 : List (S50)) (a1 : Int) (a2_0 : Int) (a2_1 : Int) (r : Bool) (w : World) (hr0_2 : Kd.C (Kd.int .i64) w A0_2 l0_2.length l0_2) (hc0_2 : l0_2.length ≤ c0_2) (hr0_3 : Kd.C (Kd.int .i64) w A0_3 l0_3.length l0_3) (hc0_3 : l0_3.length ≤ c0_3) (hr0_4 : Kd.C (Kd.int .i64) w A0_4 l0_4.length l0_4) (hc0_4 : l0_4.length ≤ c0_4) (hr0_5 : Kd.C k50 w A0_5 l0_5.length l0_5) (hc0_5 : l0_5.length ≤ c0_5) (h : lane_held.f k a0_0 a0_1 l0_2 l0_3 l0_4 l0_5 a1 a2_0 a2_1 = some r) :
  Calls Try.prog 45 #[.agg #[.int .i64 a0_0,.int .i64 a0_1,.slice A0_2 l0_2.length c0_2,.slice A0_3 l0_3.length c0_3,.slice A0_4 l0_4.length c0_4,.slice A0_5 l0_5.length c0_5],.int .i64 a1,.agg #[.int .i64 a2_0,.int .i64 a2_1]] w fun e w' => e = .returned (.bool r) ∧ Below w.heap.size w w':=by
 have hu33:=Try.underlying33
 have hu73:=Try.underlying73
 have hu50:=Try.underlying50
 have HR0_2:=Aside0.mk hr0_2
 have HC0_2:=Aside0.mk hc0_2
 clear hr0_2 hc0_2
 have HR0_3:=Aside0.mk hr0_3
 have HC0_3:=Aside0.mk hc0_3
 clear hr0_3 hc0_3
 have HR0_4:=Aside0.mk hr0_4
 have HC0_4:=Aside0.mk hc0_4
 clear hr0_4 hc0_4
 have HR0_5:=Aside0.mk hr0_5
 have HC0_5:=Aside0.mk hc0_5
 clear hr0_5 hc0_5
 have HB:=Aside0.mk (Below.refl w.heap.size w)
 have H : (lane_held.l0 k a1 l0_5 (l0_5.length : Int) 0 a2_0 a2_1) = some r:=h
 clear h
 have H':=Aside0.mk H
 clear H
 go_enter Try.func45,Try.ntmps45
 go_wp2_with (first|((with_reducible refine gate_dst (N:=3) rfl ?_);refine box_ev (N:=3) (cs:=#[.int .i64 a0_0,.int .i64 a0_1,.slice A0_2 l0_2.length c0_2,.slice A0_3 l0_3.length c0_3,.slice A0_4 l0_4.length c0_4,.slice A0_5 l0_5.length c0_5]) (t:=33) ?_;intro gb349 hg w4 hbox hb;have BK349:=Aside0.mk (hbox);have GW349 : Aside0 (w.heap.size ≤ gb349):=gsz hg;have GE349:=GW349;replace HB:=hbs hb;clear hb hbox hg)|((with_reducible refine gate_dst (N:=5) rfl ?_);refine box_ev (N:=5) (cs:=#[.int .i64 a2_0,.int .i64 a2_1]) (t:=73) ?_;intro gb350 hg w5 hbox hb;have BK350:=Aside0.mk (hbox);have GW350 : Aside0 (w.heap.size ≤ gb350):=gsz hg;have GE350:=GW350;have NB349_350:=nbl BK349 hg;have NB350_349:=nbr BK349 hg;replace BK349:=bkb BK349 hb;replace HB:=hbs hb;clear hb hbox hg;have hnb6:=NB349_350.out;have hnc6:=NB350_349.out;obtain ⟨_,_,_,_,_,_,_,_,_,_,_,_⟩:=cells6 BK349.out))
 go_loopg [12] k (fun kq v12 w' => ∃ (x12_1 : Int),v12 = .int .i64 x12_1 ∧ Aside0 (lane_held.l0 kq a1 l0_5 (l0_5.length : Int) x12_1 a2_0 a2_1 = some r) ∧ Aside0 (kq ≤ k) ∧ Aside0 (w'.heap[gb349]? = some (.cells #[.int .i64 a0_0,.int .i64 a0_1,(.slice A0_2 l0_2.length c0_2),(.slice A0_3 l0_3.length c0_3),(.slice A0_4 l0_4.length c0_4),(.slice A0_5 l0_5.length c0_5)] 33 (0,0))) ∧ Aside0 (w'.heap[gb350]? = some (.cells #[.int .i64 a2_0,.int .i64 a2_1] 73 (0,0))) ∧ Aside0 (Below w.heap.size w w'))
 case atStart => exact ⟨(0),(by first|rfl|(simp;done)|(simp [*];done)),H',⟨Nat.le_refl _⟩,⟨blk_up BK349.out⟩,⟨blk_up BK350.out⟩,⟨hb_⟩⟩
 case round =>
  clear H'
  obtain ⟨x12_1,rfl,HA,HK1,BK349,BK350,HB⟩:=hrel
  cases gk with
  | zero => exact absurd HA.out (by simp [lane_held.l0])
  | succ k1 =>
   have H:=HA.out
   clear HA
   simp only [lane_held.l0] at H
   by_cases c8 : x12_1 < (l0_5.length : Int)
   rotate_left
   ·rw [if_neg c8] at H
    have c8b0 : decide (x12_1 < (l0_5.length : Int)) = false:=decide_eq_false c8
    clear c8
    obtain rfl:=Option.some.inj H
    go_wp2
    go_ret
    exact ⟨er_,hb_⟩
   rw [if_pos c8] at H
   have c8b0 : decide (x12_1 < (l0_5.length : Int)) = true:=decide_eq_true c8
   clear c8
   replace H:=ifp_ H;obtain ⟨c9,H⟩:=H
   have c9b0 : decide (0 ≤ x12_1) = true:=decide_eq_true c9
   clear c9
   replace H:=ifp_ H;obtain ⟨c10,H⟩:=H
   have c10b0 : decide (x12_1 < (l0_5.length : Int)) = true:=decide_eq_true c10
   clear c10
   by_cases c11 : x12_1 = a1
   ·rw [if_pos c11] at H
    have c11b0:=bqt c11
    have c11b1:=bnf c11
    clear c11
    have H':=Aside0.mk H
    clear H
    have p351 : 0 ≤ (x12_1 : Int):=of_decide_eq_true (by first|(with_reducible assumption)|assumption)
    have q351 : x12_1 < (l0_5.length : Int):=of_decide_eq_true (by first|(with_reducible assumption)|assumption)
    obtain ⟨ad351,e351,hx351_0,hx351_1,hx351_2,hx351_3,hx351_4⟩:=at_T50 HR0_5.out x12_1 p351 q351
    cases e351
    replace hx351_0:=(HB.out.cell (World.block_lt_of_cell? w _ hx351_0)).trans hx351_0
    replace hx351_1:=(HB.out.cell (World.block_lt_of_cell? w _ hx351_1)).trans hx351_1
    replace hx351_2:=(HB.out.cell (World.block_lt_of_cell? w _ hx351_2)).trans hx351_2
    replace hx351_3:=(HB.out.cell (World.block_lt_of_cell? w _ hx351_3)).trans hx351_3
    replace hx351_4:=(HB.out.cell (World.block_lt_of_cell? w _ hx351_4)).trans hx351_4
    replace p351:=eq_true p351
    replace q351:=eq_true q351
    go_wp2_with (first|((with_reducible refine gate_dst (N:=8) rfl ?_);refine box_ev (N:=8) (cs:=#[.int .i64 0,.int .i64 0,.int .i64 0,.int .i64 0,.int .i64 0]) (t:=50) ?_;intro gb352 hg w12 hbox hb;have BK352:=Aside0.mk (hbox);have GW352 : Aside0 (w.heap.size ≤ gb352):=gsz hg;have GE352:=GW352;have NB349_352:=nbl BK349 hg;have NB352_349:=nbr BK349 hg;have NB350_352:=nbl BK350 hg;have NB352_350:=nbr BK350 hg;replace BK349:=bkb BK349 hb;replace BK350:=bkb BK350 hb;replace HB:=hbs hb;clear hb hbox hg;have hnb13:=NB352_349.out;have hnc13:=NB349_352.out;have hnb14:=NB352_350.out;have hnc14:=NB350_352.out;obtain ⟨_,_,_,_,_,_,_,_,_,_⟩:=cells5 BK352.out))
    go_roundg k1
    case measure => have:=HK1.out;omega
    case rel => exact ⟨(wrap64 (x12_1 + 1)),(by first|rfl|(simp;done)|(simp [*];done)),H',⟨by have:=HK1.out;omega⟩,⟨by (with_reducible repeat (first|refine blk_drewN ?_ _|refine blk_drew ?_|refine blk_alloc ?_ _));refine blk_far ?_ NB349_352.out _;(with_reducible repeat (first|refine blk_drewN ?_ _|refine blk_drew ?_|refine blk_alloc ?_ _));refine blk_far ?_ NB349_352.out _;(with_reducible repeat (first|refine blk_drewN ?_ _|refine blk_drew ?_|refine blk_alloc ?_ _));refine blk_far ?_ NB349_352.out _;(with_reducible repeat (first|refine blk_drewN ?_ _|refine blk_drew ?_|refine blk_alloc ?_ _));refine blk_far ?_ NB349_352.out _;(with_reducible repeat (first|refine blk_drewN ?_ _|refine blk_drew ?_|refine blk_alloc ?_ _));refine blk_far ?_ NB349_352.out _;(with_reducible repeat (first|refine blk_drewN ?_ _|refine blk_drew ?_|refine blk_alloc ?_ _));exact BK349.out⟩,⟨by (with_reducible repeat (first|refine blk_drewN ?_ _|refine blk_drew ?_|refine blk_alloc ?_ _));refine blk_far ?_ NB350_352.out _;(with_reducible repeat (first|refine blk_drewN ?_ _|refine blk_drew ?_|refine blk_alloc ?_ _));refine blk_far ?_ NB350_352.out _;(with_reducible repeat (first|refine blk_drewN ?_ _|refine blk_drew ?_|refine blk_alloc ?_ _));refine blk_far ?_ NB350_352.out _;(with_reducible repeat (first|refine blk_drewN ?_ _|refine blk_drew ?_|refine blk_alloc ?_ _));refine blk_far ?_ NB350_352.out _;(with_reducible repeat (first|refine blk_drewN ?_ _|refine blk_drew ?_|refine blk_alloc ?_ _));refine blk_far ?_ NB350_352.out _;(with_reducible repeat (first|refine blk_drewN ?_ _|refine blk_drew ?_|refine blk_alloc ?_ _));exact BK350.out⟩,⟨hb_⟩⟩
   rw [if_neg c11] at H
   have c11b0:=bqf c11
   have c11b1:=bnt c11
   by_cases c16 : ((rd_T50 l0_5 x12_1).f0) = a2_0
   rotate_left
   ·rw [if_neg c16] at H
    have c16b0:=bqf c16
    have c16b1:=bnt c16
    have H':=Aside0.mk H
    clear H
    have p351 : 0 ≤ (x12_1 : Int):=of_decide_eq_true (by first|(with_reducible assumption)|assumption)
    have q351 : x12_1 < (l0_5.length : Int):=of_decide_eq_true (by first|(with_reducible assumption)|assumption)
    obtain ⟨ad351,e351,hx351_0,hx351_1,hx351_2,hx351_3,hx351_4⟩:=at_T50 HR0_5.out x12_1 p351 q351
    cases e351
    replace hx351_0:=(HB.out.cell (World.block_lt_of_cell? w _ hx351_0)).trans hx351_0
    replace hx351_1:=(HB.out.cell (World.block_lt_of_cell? w _ hx351_1)).trans hx351_1
    replace hx351_2:=(HB.out.cell (World.block_lt_of_cell? w _ hx351_2)).trans hx351_2
    replace hx351_3:=(HB.out.cell (World.block_lt_of_cell? w _ hx351_3)).trans hx351_3
    replace hx351_4:=(HB.out.cell (World.block_lt_of_cell? w _ hx351_4)).trans hx351_4
    replace p351:=eq_true p351
    replace q351:=eq_true q351
    go_wp2_with (first|((with_reducible refine gate_dst (N:=8) rfl ?_);refine box_ev (N:=8) (cs:=#[.int .i64 0,.int .i64 0,.int .i64 0,.int .i64 0,.int .i64 0]) (t:=50) ?_;intro gb352 hg w30 hbox hb;have BK352:=Aside0.mk (hbox);have GW352 : Aside0 (w.heap.size ≤ gb352):=gsz hg;have GE352:=GW352;have NB349_352:=nbl BK349 hg;have NB352_349:=nbr BK349 hg;have NB350_352:=nbl BK350 hg;have NB352_350:=nbr BK350 hg;replace BK349:=bkb BK349 hb;replace BK350:=bkb BK350 hb;replace HB:=hbs hb;clear hb hbox hg;have hnb31:=NB352_349.out;have hnc31:=NB349_352.out;have hnb32:=NB352_350.out;have hnc32:=NB350_352.out;obtain ⟨_,_,_,_,_,_,_,_,_,_⟩:=cells5 BK352.out;have hnb34:=NB350_349.out;have hnc34:=NB349_350.out;obtain ⟨_,_,_,_⟩:=cells2 BK350.out))
    go_roundg k1
    case measure => have:=HK1.out;omega
    case rel => exact ⟨(wrap64 (x12_1 + 1)),(by first|rfl|(simp;done)|(simp [*];done)),H',⟨by have:=HK1.out;omega⟩,⟨by (with_reducible repeat (first|refine blk_drewN ?_ _|refine blk_drew ?_|refine blk_alloc ?_ _));refine blk_far ?_ NB349_352.out _;(with_reducible repeat (first|refine blk_drewN ?_ _|refine blk_drew ?_|refine blk_alloc ?_ _));refine blk_far ?_ NB349_352.out _;(with_reducible repeat (first|refine blk_drewN ?_ _|refine blk_drew ?_|refine blk_alloc ?_ _));refine blk_far ?_ NB349_352.out _;(with_reducible repeat (first|refine blk_drewN ?_ _|refine blk_drew ?_|refine blk_alloc ?_ _));refine blk_far ?_ NB349_352.out _;(with_reducible repeat (first|refine blk_drewN ?_ _|refine blk_drew ?_|refine blk_alloc ?_ _));refine blk_far ?_ NB349_352.out _;(with_reducible repeat (first|refine blk_drewN ?_ _|refine blk_drew ?_|refine blk_alloc ?_ _));exact BK349.out⟩,⟨by (with_reducible repeat (first|refine blk_drewN ?_ _|refine blk_drew ?_|refine blk_alloc ?_ _));refine blk_far ?_ NB350_352.out _;(with_reducible repeat (first|refine blk_drewN ?_ _|refine blk_drew ?_|refine blk_alloc ?_ _));refine blk_far ?_ NB350_352.out _;(with_reducible repeat (first|refine blk_drewN ?_ _|refine blk_drew ?_|refine blk_alloc ?_ _));refine blk_far ?_ NB350_352.out _;(with_reducible repeat (first|refine blk_drewN ?_ _|refine blk_drew ?_|refine blk_alloc ?_ _));refine blk_far ?_ NB350_352.out _;(with_reducible repeat (first|refine blk_drewN ?_ _|refine blk_drew ?_|refine blk_alloc ?_ _));refine blk_far ?_ NB350_352.out _;(with_reducible repeat (first|refine blk_drewN ?_ _|refine blk_drew ?_|refine blk_alloc ?_ _));exact BK350.out⟩,⟨hb_⟩⟩
   rw [if_pos c16] at H
   have c16b0:=bqt c16
   have c16b1:=bnf c16
   clear c16
   by_cases c17 : ((rd_T50 l0_5 x12_1).f2) = a2_1
   ·rw [if_pos c17] at H
    have c17b0:=bqt c17
    have c17b1:=bnf c17
    clear c17
    obtain rfl:=Option.some.inj H
    have p351 : 0 ≤ (x12_1 : Int):=of_decide_eq_true (by first|(with_reducible assumption)|assumption)
    have q351 : x12_1 < (l0_5.length : Int):=of_decide_eq_true (by first|(with_reducible assumption)|assumption)
    obtain ⟨ad351,e351,hx351_0,hx351_1,hx351_2,hx351_3,hx351_4⟩:=at_T50 HR0_5.out x12_1 p351 q351
    cases e351
    replace hx351_0:=(HB.out.cell (World.block_lt_of_cell? w _ hx351_0)).trans hx351_0
    replace hx351_1:=(HB.out.cell (World.block_lt_of_cell? w _ hx351_1)).trans hx351_1
    replace hx351_2:=(HB.out.cell (World.block_lt_of_cell? w _ hx351_2)).trans hx351_2
    replace hx351_3:=(HB.out.cell (World.block_lt_of_cell? w _ hx351_3)).trans hx351_3
    replace hx351_4:=(HB.out.cell (World.block_lt_of_cell? w _ hx351_4)).trans hx351_4
    replace p351:=eq_true p351
    replace q351:=eq_true q351
    go_wp2_with (first|((with_reducible refine gate_dst (N:=8) rfl ?_);refine box_ev (N:=8) (cs:=#[.int .i64 0,.int .i64 0,.int .i64 0,.int .i64 0,.int .i64 0]) (t:=50) ?_;intro gb352 hg w18 hbox hb;have BK352:=Aside0.mk (hbox);have GW352 : Aside0 (w.heap.size ≤ gb352):=gsz hg;have GE352:=GW352;have NB349_352:=nbl BK349 hg;have NB352_349:=nbr BK349 hg;have NB350_352:=nbl BK350 hg;have NB352_350:=nbr BK350 hg;replace BK349:=bkb BK349 hb;replace BK350:=bkb BK350 hb;replace HB:=hbs hb;clear hb hbox hg;have hnb19:=NB352_349.out;have hnc19:=NB349_352.out;have hnb20:=NB352_350.out;have hnc20:=NB350_352.out;obtain ⟨_,_,_,_,_,_,_,_,_,_⟩:=cells5 BK352.out;have hnb22:=NB350_349.out;have hnc22:=NB349_350.out;obtain ⟨_,_,_,_⟩:=cells2 BK350.out))
    go_ret
    exact ⟨er_,hb_⟩
   ·rw [if_neg c17] at H
    have c17b0:=bqf c17
    have c17b1:=bnt c17
    have H':=Aside0.mk H
    clear H
    have p351 : 0 ≤ (x12_1 : Int):=of_decide_eq_true (by first|(with_reducible assumption)|assumption)
    have q351 : x12_1 < (l0_5.length : Int):=of_decide_eq_true (by first|(with_reducible assumption)|assumption)
    obtain ⟨ad351,e351,hx351_0,hx351_1,hx351_2,hx351_3,hx351_4⟩:=at_T50 HR0_5.out x12_1 p351 q351
    cases e351
    replace hx351_0:=(HB.out.cell (World.block_lt_of_cell? w _ hx351_0)).trans hx351_0
    replace hx351_1:=(HB.out.cell (World.block_lt_of_cell? w _ hx351_1)).trans hx351_1
    replace hx351_2:=(HB.out.cell (World.block_lt_of_cell? w _ hx351_2)).trans hx351_2
    replace hx351_3:=(HB.out.cell (World.block_lt_of_cell? w _ hx351_3)).trans hx351_3
    replace hx351_4:=(HB.out.cell (World.block_lt_of_cell? w _ hx351_4)).trans hx351_4
    replace p351:=eq_true p351
    replace q351:=eq_true q351
    go_wp2_with (first|((with_reducible refine gate_dst (N:=8) rfl ?_);refine box_ev (N:=8) (cs:=#[.int .i64 0,.int .i64 0,.int .i64 0,.int .i64 0,.int .i64 0]) (t:=50) ?_;intro gb352 hg w24 hbox hb;have BK352:=Aside0.mk (hbox);have GW352 : Aside0 (w.heap.size ≤ gb352):=gsz hg;have GE352:=GW352;have NB349_352:=nbl BK349 hg;have NB352_349:=nbr BK349 hg;have NB350_352:=nbl BK350 hg;have NB352_350:=nbr BK350 hg;replace BK349:=bkb BK349 hb;replace BK350:=bkb BK350 hb;replace HB:=hbs hb;clear hb hbox hg;have hnb25:=NB352_349.out;have hnc25:=NB349_352.out;have hnb26:=NB352_350.out;have hnc26:=NB350_352.out;obtain ⟨_,_,_,_,_,_,_,_,_,_⟩:=cells5 BK352.out;have hnb28:=NB350_349.out;have hnc28:=NB349_350.out;obtain ⟨_,_,_,_⟩:=cells2 BK350.out))
    go_roundg k1
    case measure => have:=HK1.out;omega
    case rel => exact ⟨(wrap64 (x12_1 + 1)),(by first|rfl|(simp;done)|(simp [*];done)),H',⟨by have:=HK1.out;omega⟩,⟨by (with_reducible repeat (first|refine blk_drewN ?_ _|refine blk_drew ?_|refine blk_alloc ?_ _));refine blk_far ?_ NB349_352.out _;(with_reducible repeat (first|refine blk_drewN ?_ _|refine blk_drew ?_|refine blk_alloc ?_ _));refine blk_far ?_ NB349_352.out _;(with_reducible repeat (first|refine blk_drewN ?_ _|refine blk_drew ?_|refine blk_alloc ?_ _));refine blk_far ?_ NB349_352.out _;(with_reducible repeat (first|refine blk_drewN ?_ _|refine blk_drew ?_|refine blk_alloc ?_ _));refine blk_far ?_ NB349_352.out _;(with_reducible repeat (first|refine blk_drewN ?_ _|refine blk_drew ?_|refine blk_alloc ?_ _));refine blk_far ?_ NB349_352.out _;(with_reducible repeat (first|refine blk_drewN ?_ _|refine blk_drew ?_|refine blk_alloc ?_ _));exact BK349.out⟩,⟨by (with_reducible repeat (first|refine blk_drewN ?_ _|refine blk_drew ?_|refine blk_alloc ?_ _));refine blk_far ?_ NB350_352.out _;(with_reducible repeat (first|refine blk_drewN ?_ _|refine blk_drew ?_|refine blk_alloc ?_ _));refine blk_far ?_ NB350_352.out _;(with_reducible repeat (first|refine blk_drewN ?_ _|refine blk_drew ?_|refine blk_alloc ?_ _));refine blk_far ?_ NB350_352.out _;(with_reducible repeat (first|refine blk_drewN ?_ _|refine blk_drew ?_|refine blk_alloc ?_ _));refine blk_far ?_ NB350_352.out _;(with_reducible repeat (first|refine blk_drewN ?_ _|refine blk_drew ?_|refine blk_alloc ?_ _));refine blk_far ?_ NB350_352.out _;(with_reducible repeat (first|refine blk_drewN ?_ _|refine blk_drew ?_|refine blk_alloc ?_ _));exact BK350.out⟩,⟨hb_⟩⟩

end Go.Proofs.Ythjmdpekcleihaa.P

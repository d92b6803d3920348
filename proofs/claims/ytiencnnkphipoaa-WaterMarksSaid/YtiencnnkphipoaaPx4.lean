/- Functions of this seat as plain Lean functions, with proofs that the Go code comes to just their answers, or what stands between them and a law's statement; no conditions. (Laid by a program of this session, out of the kit's print.) -/
import Derived.Test.YtiencnnkphipoaaPx0
namespace Go.Proofs.Ytiencnnkphipoaa.P
open Go.RowKit Go.Proofs.YtiencnnkphipoaaW.PrintWords Go.Proofs.YtiencnnkphipoaaW.PrintLast Go.Proofs.YtiencnnkphipoaaW.PrintMore
attribute [local go_sem] max2_int min2_int max_two min_two max_three min_three max_four min_four   -- for this text's walks alone
set_option linter.unusedVariables false
set_option linter.unusedSimpArgs false

/-! ### water_clone: function 53 -/
def water_clone.f (l0_0 : List Int) (l0_1 : List Int) : Option (List Int × List Int) := if ([] : List Int).length + l0_0.length < 17592186044416 then (if ([] : List Int).length + l0_1.length < 17592186044416 then (some ((([] : List Int) ++ l0_0), (([] : List Int) ++ l0_1))) else (none)) else (none)
def water_clone.T1 : Bool × List (List Nat × List Nat) := (true, [([], []), ([0], [0]), ([1], [1]), ([], []), ([3], [3]), ([4, 2], [4]), ([2, 5], [2, 5]), ([6, 5, 0, 1, 2, 3, 4, 5, 6], [6])])
def water_clone.B1 : List Nat := [0, 1, 3, 0, 8, 31, 63, 127]
theorem water_clone.tab1 : rtab .any (opsOf Try.f53 1) = water_clone.T1 := by kernel_rfl
theorem water_clone.bits1 : waitsOk water_clone.T1.2 water_clone.B1 = true := by kernel_rfl
set_option maxHeartbeats 8000000 in
set_option maxRecDepth 100000 in
theorem water_clone.calls (A0_0 : Option Addr) (c0_0 : Nat) (l0_0 : List Int) (A0_1 : Option Addr) (c0_1 : Nat) (l0_1 : List Int) (r1 : List Int) (r2 : List Int) (w : World) (hr0_0 : Kd.C (Kd.int .i64) w A0_0 l0_0.length l0_0) (hc0_0 : l0_0.length ≤ c0_0) (hr0_1 : Kd.C (Kd.int .i64) w A0_1 l0_1.length l0_1) (hc0_1 : l0_1.length ≤ c0_1) (h : water_clone.f l0_0 l0_1 = some (r1, r2)) :
  Calls Try.prog 53 #[.agg #[.slice A0_0 l0_0.length c0_0,.slice A0_1 l0_1.length c0_1]] w fun e w' => ∃ v0_ v1_ : Value,e = .returned (.agg #[v0_,v1_]) ∧ Kd.R (Kd.int .i64) 3 w' w.heap.size (fun k_ => some k_ ≠ (v1_ : Value).ownBlock) v0_ r1 ∧ Kd.R (Kd.int .i64) 3 w' w.heap.size (fun k_ => some k_ ≠ (v0_ : Value).ownBlock) v1_ r2 ∧ Below w.heap.size w w':=by
 have hu26:=Try.underlying26
 have HR0_0:=Aside0.mk hr0_0
 have HC0_0:=Aside0.mk hc0_0
 clear hr0_0 hc0_0
 have HR0_1:=Aside0.mk hr0_1
 have HC0_1:=Aside0.mk hc0_1
 clear hr0_1 hc0_1
 have HB:=Aside0.mk (Below.refl w.heap.size w)
 have H : (if ([] : List Int).length + l0_0.length < 17592186044416 then (if ([] : List Int).length + l0_1.length < 17592186044416 then (some ((([] : List Int) ++ l0_0),(([] : List Int) ++ l0_1))) else (none)) else (none)) = some (r1,r2):=h
 clear h
 replace H:=ifp_ H;obtain ⟨c2,H⟩:=H
 have LMc2:=Aside0.mk c2
 clear c2
 obtain ⟨y303,hy303⟩ : ∃ y_ : List Int,y_ = (([] : List Int) ++ l0_0):=⟨_,rfl⟩
 replace H : (if ([] : List Int).length + l0_1.length < 17592186044416 then (some (y303,(([] : List Int) ++ l0_1))) else (none)) = some (r1,r2):=by first|(rw [hy303];with_reducible exact H)|(have H2_:=(Option.bind_some _ _).symm.trans H;rw [hy303];with_reducible exact H2_)|(have H2_:=(Option.bind_some _ _).symm.trans H;with_reducible exact H2_)|with_reducible exact H|(rw [hy303];exact H)|exact H
 have Ny303:=Aside0.mk hy303
 clear hy303
 replace H:=ifp_ H;obtain ⟨c3,H⟩:=H
 have LMc3:=Aside0.mk c3
 clear c3
 obtain ⟨y306,hy306⟩ : ∃ y_ : List Int,y_ = (([] : List Int) ++ l0_1):=⟨_,rfl⟩
 replace H : (some (y303,y306)) = some (r1,r2):=by first|(rw [hy306];with_reducible exact H)|(have H2_:=(Option.bind_some _ _).symm.trans H;rw [hy306];with_reducible exact H2_)|(have H2_:=(Option.bind_some _ _).symm.trans H;with_reducible exact H2_)|with_reducible exact H|(rw [hy306];exact H)|exact H
 have Ny306:=Aside0.mk hy306
 clear hy306
 simp only [Option.some.injEq,Prod.mk.injEq] at H
 obtain ⟨rfl,rfl⟩:=H
 go_enter Try.func53,Try.ntmps53
 try go_wp2_with (first|((with_reducible refine gate_dst (N:=1) rfl ?_);refine box_ev (N:=1) (cs:=#[.slice A0_0 l0_0.length c0_0,.slice A0_1 l0_1.length c0_1]) (t:=26) ?_;intro gb301 hg w4 hbox hb;have BK301:=Aside0.mk (hbox);have GW301 : Aside0 (w.heap.size ≤ gb301):=gsz hg;have GE301:=GW301;replace HB:=hbs hb;clear hb hbox hg)|((with_reducible refine gate_dst (N:=2) rfl ?_);refine box_ev (N:=2) (cs:=#[.slice none 0 0,.slice none 0 0]) (t:=26) ?_;intro gb302 hg w5 hbox hb;have BK302:=Aside0.mk (hbox);have GW302 : Aside0 (w.heap.size ≤ gb302):=gsz hg;have GE302:=GW302;have NB301_302:=nbl BK301 hg;have NB302_301:=nbr BK301 hg;replace BK301:=bkb BK301 hb;replace HB:=hbs hb;clear hb hbox hg))
 replace BK301:=Aside0.mk (blk_drew BK301.out)
 replace BK302:=Aside0.mk (blk_drew BK302.out)
 replace HB:=Aside0.mk (below_drew1 HB.out)
 refine start_ (n:=8) (S:=fun w' => w'.cell? ⟨gb301,0,none⟩ = some (.slice A0_0 l0_0.length c0_0) ∧ w'.cell? ⟨gb301,1,none⟩ = some (.slice A0_1 l0_1.length c0_1)) (ds:=[]) #[false,false,false,false,false,false,false,false] (by kernel_rfl) rfl rfl ⟨(blk_cell BK301.out 0).trans rfl,(blk_cell BK301.out 1).trans rfl⟩ (fun hHeld => ?_);refine with_tabW water_clone.tab1 water_clone.bits1 (fun HT_ HW_ => ?_)
 generalize w5.drew = w6 at BK301 BK302 HB hHeld ⊢
 refine pI 0 (some 3) ?_
 refine pI 3 (some 6) ?_
 refine tI2 1 (some 4) hHeld ?_
 refine tI2 4 (some 7) hHeld ?_
 refine oI 2 (some 5) (fun K hK => ?_)
 refine Kd.R_append_rows_step (Kd.int .i64) (w0:=w) w.heap.size rfl (.const (.slice none 0 0)) (.tmp 4) 22 3 (.int .i64 0) 8 rfl Try.underlying22 info3 rfl (by decide) (by omega) (.slice none 0 0) ([] : List Int) l0_0 _ _ _ (fun _ => True) (fun _ => False) rfl rfl ?aO ?aR (fun _ _ h => h) (fun _ h => h.elim) ?aF ?aB ?aS ?aL ?_
 (case aR => exact Kd.C_up (Kd.C_below HR0_0.out HB.out))
 (case aB => exact (hb_))
 (case aF => exact (fun _ _ => trivial))
 (case aO => exact ((Kd.R_nil _ _ _ _ (fun _ => True))))
 (case aS => exact (below_size (hb_)))
 (case aL => have:=LMc2.out;omega)
 intro v304 w7 ho hb hg hat
 rw [← Ny303.out] at ho
 have n0_:=Aside0.mk (blk_grown (blk_up BK301.out) hg (by simp [Value.ownBlock]))
 have n1_:=Aside0.mk (blk_grown (blk_up BK302.out) hg (by simp [Value.ownBlock]))
 have n2_:=Aside0.mk (hb)
 have n3_:=Aside0.mk (ho)
 clear BK301
 clear BK302
 clear HB
 have BK301:=n0_
 have BK302:=n1_
 have HB:=n2_
 have HO305:=n3_
 clear n0_ n1_ n2_ n3_
 clear ho hb hg hat
 refine hK.out _ _ ⟨(blk_cell BK301.out 0).trans rfl,(blk_cell BK301.out 1).trans rfl⟩ (fun hHeld => ?_)
 clear hK K
 refine norm_ (a':=?_) ?_ ?_
 rotate_left
 ·show Act.put _ (some 5) _ = _
  simp only [Act.put,List.setIfInBounds_toArray,List.set_cons_zero,List.set_cons_succ,i64_w,i32_w]
  rfl
 refine oI 5 (some 8) (fun K hK => ?_)
 refine Kd.R_append_rows_step (Kd.int .i64) (w0:=w) w.heap.size rfl (.const (.slice none 0 0)) (.tmp 7) 22 3 (.int .i64 0) 8 rfl Try.underlying22 info3 rfl (by decide) (by omega) (.slice none 0 0) ([] : List Int) l0_1 _ _ _ (fun k_ => some k_ ≠ (v304 : Value).ownBlock) (fun _ => False) rfl rfl ?aO ?aR (fun _ _ h => h) (fun _ h => h.elim) ?aF ?aB ?aS ?aL ?_
 (case aR => exact Kd.C_up (Kd.C_below HR0_1.out HB.out))
 (case aB => exact (hb_))
 (case aF => exact (fun k_ hk => Kd.fresh' (Kd.R_lt (Kd.R_up HO305.out)) k_ hk))
 (case aO => exact ((Kd.R_nil _ _ _ _ (fun k_ => some k_ ≠ (v304 : Value).ownBlock))))
 (case aS => exact (below_size (hb_)))
 (case aL => have:=LMc3.out;omega)
 intro v307 w8 ho hb hg hat
 rw [← Ny306.out] at ho
 have n0_:=Aside0.mk (blk_grown (blk_up BK301.out) hg (by simp [Value.ownBlock]))
 have n1_:=Aside0.mk (blk_grown (blk_up BK302.out) hg (by simp [Value.ownBlock]))
 have n2_:=Aside0.mk (Kd.R_after (Kd.R_apart_nil (Kd.R_up HO305.out)) hg hat)
 have n3_:=Aside0.mk (hb)
 have n4_:=Aside0.mk (ho)
 clear BK301
 clear BK302
 clear HO305
 clear HB
 have BK301:=n0_
 have BK302:=n1_
 have HO305:=n2_
 have HB:=n3_
 have HO308:=n4_
 clear n0_ n1_ n2_ n3_ n4_
 clear ho hb hg hat
 obtain ⟨Ao9,co9,eo9⟩:=Kd.R_slice HO308.out
 (first|subst eo9|(injection eo9 with f1_ f2_ f3_;have f4_:=f1_.symm;have f5_:=f3_.symm;clear f1_ f2_ f3_;subst f4_;subst f5_))
 obtain ⟨Ao10,co10,eo10⟩:=Kd.R_slice HO305.out
 (first|subst eo10|(injection eo10 with f1_ f2_ f3_;have f4_:=f1_.symm;have f5_:=f3_.symm;clear f1_ f2_ f3_;subst f4_;subst f5_))
 refine hK.out _ _ ⟨(blk_cell BK301.out 0).trans rfl,(blk_cell BK301.out 1).trans rfl⟩ (fun hHeld => ?_)
 clear hK K
 refine norm_ (a':=?_) ?_ ?_
 rotate_left
 ·show Act.put _ (some 8) _ = _
  simp only [Act.put,List.setIfInBounds_toArray,List.set_cons_zero,List.set_cons_succ,i64_w,i32_w]
  rfl
 refine pI 6 (some 9) ?_
 refine oI 7 (none) (fun K hK => ?_)
 have hs11 : w8.cell? ⟨gb302,0,none⟩ = some (.slice none 0 0):=(blk_cell BK302.out 0).trans rfl
 have hfs11:=blk_frozen BK302.out 0
 have hns11_0:=NB301_302.out
 have hms11_0:=NB302_301.out
 have hs12 : w8.cell? ⟨gb302,1,none⟩ = some (.slice none 0 0):=(blk_cell BK302.out 1).trans rfl
 have hfs12:=blk_frozen BK302.out 1
 have hns12_0:=NB301_302.out
 have hms12_0:=NB302_301.out
 refine skip_ (w1:=?_) (by rfl) rfl ?_ ?_
 rotate_left
 ·go_simp
  rfl
 refine hK.out _ _ ⟨((cell_far (p:=⟨gb302,_,none⟩) NB301_302.out _).trans (((cell_far (p:=⟨gb302,_,none⟩) NB301_302.out _).trans (hHeld.1)))),((cell_far (p:=⟨gb302,_,none⟩) NB301_302.out _).trans (((cell_far (p:=⟨gb302,_,none⟩) NB301_302.out _).trans (hHeld.2))))⟩ (fun hHeld => ?_)
 clear hK K
 refine done_ (done_of HT_.out (by kernel_rfl)) ?_
 try go_wp2
 refine bodyPost_ret (results_cell_row rfl _ _ gb302 26 #[.slice Ao10 y303.length co10,.slice Ao9 y306.length co9] (0,0) _ rfl (by (with_reducible repeat (first|refine blk_drewN ?_ _|refine blk_drew ?_|refine blk_alloc ?_ _));exact blk_puts2 (blk_up BK302.out)) Try.underlying26 rfl (by kernel_rfl)) rfl ?_
 exact ⟨_,_,er_,by (with_reducible repeat (first|apply Kd.R_alloc|apply Kd.R_drewN|apply Kd.R_drew));exact Kd.R_mono (Kd.R_fars gb302 (Kd.R_types HO305.out BK302.out (by decide)) (fun _ hk => hk.2)) (fun _ hk => hk.1.2),by (with_reducible repeat (first|apply Kd.R_alloc|apply Kd.R_drewN|apply Kd.R_drew));exact Kd.R_mono (Kd.R_fars gb302 (Kd.R_types HO308.out BK302.out (by decide)) (fun _ hk => hk.2)) (fun _ hk => hk.1),hb_⟩

end Go.Proofs.Ytiencnnkphipoaa.P

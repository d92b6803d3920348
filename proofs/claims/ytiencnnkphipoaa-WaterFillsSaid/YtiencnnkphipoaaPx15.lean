/- Functions of this seat as plain Lean functions, with proofs that the Go code comes to just their answers, or what stands between them and a law's statement; no conditions. (Laid by a program of this session, out of the kit's print.) -/
import Derived.Test.YtiencnnkphipoaaPx0
namespace Go.Proofs.Ytiencnnkphipoaa.P
open Go.RowKit Go.Proofs.YtiencnnkphipoaaW.PrintWords Go.Proofs.YtiencnnkphipoaaW.PrintLast Go.Proofs.YtiencnnkphipoaaW.PrintMore
attribute [local go_sem] max2_int min2_int max_two min_two max_three min_three max_four min_four   -- for this text's walks alone
set_option linter.unusedVariables false
set_option linter.unusedSimpArgs false

/-! ### hinterlandref06_with: function 54 -/
def hinterlandref06_with.f (l0_0 : List Int) (l0_1 : List Int) (a1 : Int) (a2 : Int) : Option (List Int × List Int) := if ([] : List Int).length + l0_0.length < 17592186044416 then ((some (([] : List Int) ++ l0_0 : List Int)).bind fun y401 => (if ([] : List Int).length + l0_1.length < 17592186044416 then (if 0 ≤ a1 then (if a1 < (y401.length : Int) then (some ((y401.set (a1 : Int).toNat a2), (([] : List Int) ++ l0_1))) else (none)) else (none)) else (none))) else (none)
def hinterlandref06_with.T1 : Bool × List (List Nat × List Nat) := (true, [([], []), ([0], [0]), ([1], [1]), ([], []), ([3], [3]), ([4, 2], [4]), ([2, 5], [2, 5]), ([], []), ([7, 6, 5, 0, 1, 2, 3, 4, 5, 6, 7], [6, 7])])
def hinterlandref06_with.B1 : List Nat := [0, 1, 3, 0, 8, 31, 63, 0, 255]
theorem hinterlandref06_with.tab1 : rtab .any (opsOf Try.f54 1) = hinterlandref06_with.T1 := by kernel_rfl
theorem hinterlandref06_with.bits1 : waitsOk hinterlandref06_with.T1.2 hinterlandref06_with.B1 = true := by kernel_rfl
set_option maxHeartbeats 8000000 in
set_option maxRecDepth 100000 in
theorem hinterlandref06_with.calls (A0_0 : Option Addr) (c0_0 : Nat) (l0_0 : List Int) (A0_1 : Option Addr) (c0_1 : Nat) (l0_1 : List Int) (a1 : Int) (a2 : Int) (r1 : List Int) (r2 : List Int) (w : World) (hr0_0 : Kd.C (Kd.int .i64) w A0_0 l0_0.length l0_0) (hc0_0 : l0_0.length ≤ c0_0) (hr0_1 : Kd.C (Kd.int .i64) w A0_1 l0_1.length l0_1) (hc0_1 : l0_1.length ≤ c0_1) (h : hinterlandref06_with.f l0_0 l0_1 a1 a2 = some (r1, r2)) :
  Calls Try.prog 54 #[.agg #[.slice A0_0 l0_0.length c0_0,.slice A0_1 l0_1.length c0_1],.int .i64 a1,.int .i64 a2] w fun e w' => ∃ v0_ v1_ : Value,e = .returned (.agg #[v0_,v1_]) ∧ Kd.R (Kd.int .i64) 3 w' w.heap.size (fun k_ => some k_ ≠ (v1_ : Value).ownBlock) v0_ r1 ∧ Kd.R (Kd.int .i64) 3 w' w.heap.size (fun k_ => some k_ ≠ (v0_ : Value).ownBlock) v1_ r2 ∧ Below w.heap.size w w':=by
 have hu26:=Try.underlying26
 have HR0_0:=Aside0.mk hr0_0
 have HC0_0:=Aside0.mk hc0_0
 clear hr0_0 hc0_0
 have HR0_1:=Aside0.mk hr0_1
 have HC0_1:=Aside0.mk hc0_1
 clear hr0_1 hc0_1
 have HB:=Aside0.mk (Below.refl w.heap.size w)
 have H : (if ([] : List Int).length + l0_0.length < 17592186044416 then ((some (([] : List Int) ++ l0_0 : List Int)).bind fun y401 => (if ([] : List Int).length + l0_1.length < 17592186044416 then (if 0 ≤ a1 then (if a1 < (y401.length : Int) then (some ((y401.set (a1 : Int).toNat a2),(([] : List Int) ++ l0_1))) else (none)) else (none)) else (none))) else (none)) = some (r1,r2):=h
 clear h
 by_cases c4 : ([] : List Int).length + l0_0.length < 17592186044416
 ·rw [if_pos c4] at H
  have LMc4:=Aside0.mk c4
  clear c4
  obtain ⟨y401,hy401⟩ : ∃ y_ : List Int,y_ = (([] : List Int) ++ l0_0):=⟨_,rfl⟩
  replace H : (if ([] : List Int).length + l0_1.length < 17592186044416 then (if 0 ≤ a1 then (if a1 < (y401.length : Int) then (some ((y401.set (a1 : Int).toNat a2),(([] : List Int) ++ l0_1))) else (none)) else (none)) else (none)) = some (r1,r2):=by first|(rw [hy401];with_reducible exact H)|(have H2_:=(Option.bind_some _ _).symm.trans H;rw [hy401];with_reducible exact H2_)|(have H2_:=(Option.bind_some _ _).symm.trans H;with_reducible exact H2_)|with_reducible exact H|(rw [hy401];exact H)|exact H
  have Ny401:=Aside0.mk hy401
  clear hy401
  by_cases c5 : ([] : List Int).length + l0_1.length < 17592186044416
  ·rw [if_pos c5] at H
   have LMc5:=Aside0.mk c5
   clear c5
   obtain ⟨y404,hy404⟩ : ∃ y_ : List Int,y_ = (([] : List Int) ++ l0_1):=⟨_,rfl⟩
   replace H : (if 0 ≤ a1 then (if a1 < (y401.length : Int) then (some ((y401.set (a1 : Int).toNat a2),y404)) else (none)) else (none)) = some (r1,r2):=by first|(rw [hy404];with_reducible exact H)|(have H2_:=(Option.bind_some _ _).symm.trans H;rw [hy404];with_reducible exact H2_)|(have H2_:=(Option.bind_some _ _).symm.trans H;with_reducible exact H2_)|with_reducible exact H|(rw [hy404];exact H)|exact H
   have Ny404:=Aside0.mk hy404
   clear hy404
   by_cases c6 : 0 ≤ a1
   ·rw [if_pos c6] at H
    have c6b0 : decide (0 ≤ a1) = true:=decide_eq_true c6
    clear c6
    by_cases c7 : a1 < (y401.length : Int)
    ·rw [if_pos c7] at H
     have c7b0 : decide (a1 < (y401.length : Int)) = true:=decide_eq_true c7
     clear c7
     obtain ⟨y408,hy408⟩ : ∃ y_ : List Int,y_ = (y401.set (a1 : Int).toNat a2):=⟨_,rfl⟩
     replace H : (some (y408,y404)) = some (r1,r2):=by first|(rw [hy408];with_reducible exact H)|(have H2_:=(Option.bind_some _ _).symm.trans H;rw [hy408];with_reducible exact H2_)|(have H2_:=(Option.bind_some _ _).symm.trans H;with_reducible exact H2_)|with_reducible exact H|(rw [hy408];exact H)|exact H
     have Ny408:=Aside0.mk hy408
     clear hy408
     simp only [Option.some.injEq,Prod.mk.injEq] at H
     obtain ⟨rfl,rfl⟩:=H
     go_enter Try.func54,Try.ntmps54
     try go_wp2_with (first|((with_reducible refine gate_dst (N:=3) rfl ?_);refine box_ev (N:=3) (cs:=#[.slice A0_0 l0_0.length c0_0,.slice A0_1 l0_1.length c0_1]) (t:=26) ?_;intro gb399 hg w9 hbox hb;have BK399:=Aside0.mk (hbox);have GW399 : Aside0 (w.heap.size ≤ gb399):=gsz hg;have GE399:=GW399;replace HB:=Aside0.mk (below_step (hb_) hb);clear hb hbox hg)|((with_reducible refine gate_dst (N:=6) rfl ?_);refine box_ev (N:=6) (cs:=#[.slice none 0 0,.slice none 0 0]) (t:=26) ?_;intro gb400 hg w10 hbox hb;have BK400:=Aside0.mk (hbox);have GW400 : Aside0 (w.heap.size ≤ gb400):=gsz hg;have GE400:=GW400;have NB399_400:=nbl BK399 hg;have NB400_399:=nbr BK399 hg;replace BK399:=bkb BK399 hb;replace HB:=Aside0.mk (below_step (hb_) hb);clear hb hbox hg))
     replace BK399:=Aside0.mk (blk_drew BK399.out)
     replace BK400:=Aside0.mk (blk_drew BK400.out)
     replace HB:=Aside0.mk (below_drew1 HB.out)
     refine start_ (n:=9) (S:=fun w' => w'.cell? ⟨gb399,0,none⟩ = some (.slice A0_0 l0_0.length c0_0) ∧ w'.cell? ⟨gb399,1,none⟩ = some (.slice A0_1 l0_1.length c0_1)) (ds:=[]) #[false,false,false,false,false,false,false,false,false] (by kernel_rfl) rfl rfl ⟨(blk_cell BK399.out 0).trans rfl,(blk_cell BK399.out 1).trans rfl⟩ (fun hHeld => ?_);refine with_tabW hinterlandref06_with.tab1 hinterlandref06_with.bits1 (fun HT_ HW_ => ?_)
     generalize w10.drew = w11 at BK399 BK400 HB hHeld ⊢
     refine pureZ (i:=0) (N:=some 8) #[true,false,false,false,false,false,false,false,false] ?_
     refine pureZ (i:=3) (N:=some 11) #[true,false,false,true,false,false,false,false,false] ?_
     refine takeZ2 (i:=1) (N:=some 9) #[true,true,false,true,false,false,false,false,false] hHeld ?_
     refine takeZ2 (i:=4) (N:=some 12) #[true,true,false,true,true,false,false,false,false] hHeld ?_
     refine join_ (σ:=Value × Value × Nat) 1 #[true,true,true,true,true,true,true,true,false] (fun s_ => [(10,s_.1),(13,s_.2.1),(7,.pointer (some ⟨s_.2.2,0,none⟩)),(14,.agg #[s_.1,s_.2.1])]) (fun s_ w' => (w'.cell? ⟨gb399,0,none⟩ = some (.slice A0_0 l0_0.length c0_0) ∧ w'.cell? ⟨gb399,1,none⟩ = some (.slice A0_1 l0_1.length c0_1)) ∧ (Kd.R (Kd.int .i64) 3 w' w.heap.size (fun k_ => some k_ ≠ (s_.2.1 : Value).ownBlock) s_.1 y401) ∧ (Kd.R (Kd.int .i64) 3 w' w.heap.size (fun k_ => some k_ ≠ (s_.1 : Value).ownBlock) s_.2.1 y404) ∧ (w'.heap[gb399]? = some (.cells #[.slice A0_0 l0_0.length c0_0,.slice A0_1 l0_1.length c0_1] 26 (0,0))) ∧ (w'.heap[gb400]? = some (.cells #[.slice none 0 0,.slice none 0 0] 26 (0,0))) ∧ (w'.heap[s_.2.2]? = some (.cells #[.slice none 0 0,.slice none 0 0] 26 (0,0))) ∧ (w.heap.size ≤ s_.2.2) ∧ (w.heap.size ≤ s_.2.2) ∧ (gb399 ≠ s_.2.2) ∧ (s_.2.2 ≠ gb399) ∧ (gb400 ≠ s_.2.2) ∧ (s_.2.2 ≠ gb400) ∧ (Below w.heap.size w w')) ?_ ?_
     rotate_left
     ·intro hCont
      refine two_ (i:=2) (j:=7) (Ni:=some 10) (Nj:=some 7) #[true,true,true,true,true,false,false,false,false] #[true,true,false,true,true,false,false,true,false] rfl rfl rfl rfl (two_of HT_.out (by kernel_rfl)) (by decide) (by decide) (fun K hK => ?_) (fun K hK => ?_)
      ·skip
       refine Kd.R_append_rows_step (Kd.int .i64) (w0:=w) w.heap.size rfl (.const (.slice none 0 0)) (.tmp 9) 22 3 (.int .i64 0) 8 rfl Try.underlying22 info3 rfl (by decide) (by omega) (.slice none 0 0) ([] : List Int) l0_0 _ _ _ (fun _ => True) (fun _ => False) rfl rfl ?aO ?aR (fun _ _ h => h) (fun _ h => h.elim) ?aF ?aB ?aS ?aL ?_
       (case aR => exact Kd.C_up (Kd.C_below HR0_0.out HB.out))
       (case aB => exact (hb_))
       (case aF => exact (fun _ _ => trivial))
       (case aO => exact ((Kd.R_nil _ _ _ _ (fun _ => True))))
       (case aS => exact (below_size (hb_)))
       (case aL => have:=LMc4.out;omega)
       intro v402 w12 ho hb hg hat
       rw [← Ny401.out] at ho
       have n0_:=Aside0.mk (blk_grown (blk_up BK399.out) hg (by simp [Value.ownBlock]))
       have n1_:=Aside0.mk (blk_grown (blk_up BK400.out) hg (by simp [Value.ownBlock]))
       have n2_:=Aside0.mk (hb)
       have n3_:=Aside0.mk (ho)
       clear BK399
       clear BK400
       clear HB
       have BK399:=n0_
       have BK400:=n1_
       have HB:=n2_
       have HO403:=n3_
       clear n0_ n1_ n2_ n3_
       clear ho hb hg hat
       refine hK.out _ _ ⟨(blk_cell BK399.out 0).trans rfl,(blk_cell BK399.out 1).trans rfl⟩ (fun hHeld => ?_)
       clear hK K
       refine norm_ (a':=?_) ?_ ?_
       rotate_left
       ·show Act.put _ (some 10) _ = _
        simp only [Act.put,List.setIfInBounds_toArray,List.set_cons_zero,List.set_cons_succ,i64_w,i32_w]
        rfl
       refine two_ (i:=5) (j:=7) (Ni:=some 13) (Nj:=some 7) #[true,true,true,true,true,true,false,false,false] #[true,true,true,true,true,false,false,true,false] rfl rfl rfl rfl (two_of HT_.out (by kernel_rfl)) (by decide) (by decide) (fun K hK => ?_) (fun K hK => ?_)
       ·skip
        refine Kd.R_append_rows_step (Kd.int .i64) (w0:=w) w.heap.size rfl (.const (.slice none 0 0)) (.tmp 12) 22 3 (.int .i64 0) 8 rfl Try.underlying22 info3 rfl (by decide) (by omega) (.slice none 0 0) ([] : List Int) l0_1 _ _ _ (fun k_ => some k_ ≠ (v402 : Value).ownBlock) (fun _ => False) rfl rfl ?aO ?aR (fun _ _ h => h) (fun _ h => h.elim) ?aF ?aB ?aS ?aL ?_
        (case aR => exact Kd.C_up (Kd.C_below HR0_1.out HB.out))
        (case aB => exact (hb_))
        (case aF => exact (fun k_ hk => Kd.fresh' (Kd.R_lt (Kd.R_up HO403.out)) k_ hk))
        (case aO => exact ((Kd.R_nil _ _ _ _ (fun k_ => some k_ ≠ (v402 : Value).ownBlock))))
        (case aS => exact (below_size (hb_)))
        (case aL => have:=LMc5.out;omega)
        intro v405 w13 ho hb hg hat
        rw [← Ny404.out] at ho
        have n0_:=Aside0.mk (blk_grown (blk_up BK399.out) hg (by simp [Value.ownBlock]))
        have n1_:=Aside0.mk (blk_grown (blk_up BK400.out) hg (by simp [Value.ownBlock]))
        have n2_:=Aside0.mk (Kd.R_after (Kd.R_apart_nil (Kd.R_up HO403.out)) hg hat)
        have n3_:=Aside0.mk (hb)
        have n4_:=Aside0.mk (ho)
        clear BK399
        clear BK400
        clear HO403
        clear HB
        have BK399:=n0_
        have BK400:=n1_
        have HO403:=n2_
        have HB:=n3_
        have HO406:=n4_
        clear n0_ n1_ n2_ n3_ n4_
        clear ho hb hg hat
        obtain ⟨Ao14,co14,eo14⟩:=Kd.R_slice HO406.out
        (first|subst eo14|(injection eo14 with f1_ f2_ f3_;have f4_:=f1_.symm;have f5_:=f3_.symm;clear f1_ f2_ f3_;subst f4_;subst f5_))
        obtain ⟨Ao15,co15,eo15⟩:=Kd.R_slice HO403.out
        (first|subst eo15|(injection eo15 with f1_ f2_ f3_;have f4_:=f1_.symm;have f5_:=f3_.symm;clear f1_ f2_ f3_;subst f4_;subst f5_))
        refine hK.out _ _ ⟨(blk_cell BK399.out 0).trans rfl,(blk_cell BK399.out 1).trans rfl⟩ (fun hHeld => ?_)
        clear hK K
        refine norm_ (a':=?_) ?_ ?_
        rotate_left
        ·show Act.put _ (some 13) _ = _
         simp only [Act.put,List.setIfInBounds_toArray,List.set_cons_zero,List.set_cons_succ,i64_w,i32_w]
         rfl
        refine pureZ (i:=6) (N:=some 14) #[true,true,true,true,true,true,true,false,false] ?_
        refine one_ (i:=7) (N:=some 7) #[true,true,true,true,true,true,true,true,false] rfl rfl (one_of HT_.out (by kernel_rfl)) (by decide) (fun K hK => ?_)
        refine box_step ?hg (N:=7) ?hd (cs:=#[.slice none 0 0,.slice none 0 0]) (t:=26) ?hr ?_;(case hd => rfl);(case hg => rfl);(case hr => first|(go_simp;done)|(go_simp;rfl))
        intro gb407 hg w16 hbox hb
        have n0_:=rbw HO403 hb
        have n1_:=rbw HO406 hb
        have n2_:=bkb BK399 hb
        have n3_:=bkb BK400 hb
        have n4_:=Aside0.mk (below_step (hb_) hb)
        have n5_:=Aside0.mk (hbox)
        have n6_:=Aside0.mk ((by rw [hg];exact (below_size (hb_)) : w.heap.size ≤ gb407))
        have n7_:=Aside0.mk ((by rw [hg];exact (below_size (hb_)) : w.heap.size ≤ gb407))
        have n8_:=Aside0.mk ((by rw [hg];exact Nat.ne_of_lt (blk_lt (blk_up BK399.out)) : gb399 ≠ gb407))
        have n9_:=Aside0.mk ((by rw [hg];exact Nat.ne_of_gt (blk_lt (blk_up BK399.out)) : gb407 ≠ gb399))
        have n10_:=Aside0.mk ((by rw [hg];exact Nat.ne_of_lt (blk_lt (blk_up BK400.out)) : gb400 ≠ gb407))
        have n11_:=Aside0.mk ((by rw [hg];exact Nat.ne_of_gt (blk_lt (blk_up BK400.out)) : gb407 ≠ gb400))
        clear HO403
        clear HO406
        clear BK399
        clear BK400
        clear HB
        have HO403:=n0_
        have HO406:=n1_
        have BK399:=n2_
        have BK400:=n3_
        have HB:=n4_
        have BK407:=n5_
        have GW407:=n6_
        have GE407:=n7_
        have NB399_407:=n8_
        have NB407_399:=n9_
        have NB400_407:=n10_
        have NB407_400:=n11_
        clear n0_ n1_ n2_ n3_ n4_ n5_ n6_ n7_ n8_ n9_ n10_ n11_
        clear hb hbox hg
        refine hK.out _ _ ⟨(blk_cell BK399.out 0).trans rfl,(blk_cell BK399.out 1).trans rfl⟩ (fun hHeld => ?_)
        clear hK K
        refine norm_ (a':=?_) ?_ ?_
        rotate_left
        ·show Act.put _ (some 7) _ = _
         simp only [Act.put,List.setIfInBounds_toArray,List.set_cons_zero,List.set_cons_succ,i64_w,i32_w]
         rfl
        exact norm_ (by simp only [putAll,Act.put,List.setIfInBounds_toArray,List.set_cons_zero,List.set_cons_succ]) (hCont (.slice Ao15 y401.length co15,.slice Ao14 y404.length co14,gb407) _ ⟨hHeld,(by (with_reducible repeat (first|apply Kd.R_alloc|apply Kd.R_drewN|apply Kd.R_drew));exact Kd.R_mono HO403.out (fun _ hk => hk.2)),(Kd.R_up HO406.out),(blk_up BK399.out),(blk_up BK400.out),(blk_up BK407.out),GW407.out,GE407.out,NB399_407.out,NB407_399.out,NB400_407.out,NB407_400.out,(hb_)⟩)
       ·skip
        refine box_step ?hg (N:=7) ?hd (cs:=#[.slice none 0 0,.slice none 0 0]) (t:=26) ?hr ?_;(case hd => rfl);(case hg => rfl);(case hr => first|(go_simp;done)|(go_simp;rfl))
        intro gb407 hg w13 hbox hb
        have n0_:=rbw HO403 hb
        have n1_:=bkb BK399 hb
        have n2_:=bkb BK400 hb
        have n3_:=Aside0.mk (below_step (hb_) hb)
        have n4_:=Aside0.mk (hbox)
        have n5_:=Aside0.mk ((by rw [hg];exact (below_size (hb_)) : w.heap.size ≤ gb407))
        have n6_:=Aside0.mk ((by rw [hg];exact (below_size (hb_)) : w.heap.size ≤ gb407))
        have n7_:=Aside0.mk ((by rw [hg];exact Nat.ne_of_lt (blk_lt (blk_up BK399.out)) : gb399 ≠ gb407))
        have n8_:=Aside0.mk ((by rw [hg];exact Nat.ne_of_gt (blk_lt (blk_up BK399.out)) : gb407 ≠ gb399))
        have n9_:=Aside0.mk ((by rw [hg];exact Nat.ne_of_lt (blk_lt (blk_up BK400.out)) : gb400 ≠ gb407))
        have n10_:=Aside0.mk ((by rw [hg];exact Nat.ne_of_gt (blk_lt (blk_up BK400.out)) : gb407 ≠ gb400))
        clear HO403
        clear BK399
        clear BK400
        clear HB
        have HO403:=n0_
        have BK399:=n1_
        have BK400:=n2_
        have HB:=n3_
        have BK407:=n4_
        have GW407:=n5_
        have GE407:=n6_
        have NB399_407:=n7_
        have NB407_399:=n8_
        have NB400_407:=n9_
        have NB407_400:=n10_
        clear n0_ n1_ n2_ n3_ n4_ n5_ n6_ n7_ n8_ n9_ n10_
        clear hb hbox hg
        refine hK.out _ _ ⟨(blk_cell BK399.out 0).trans rfl,(blk_cell BK399.out 1).trans rfl⟩ (fun hHeld => ?_)
        clear hK K
        refine norm_ (a':=?_) ?_ ?_
        rotate_left
        ·show Act.put _ (some 7) _ = _
         simp only [Act.put,List.setIfInBounds_toArray,List.set_cons_zero,List.set_cons_succ,i64_w,i32_w]
         rfl
        refine one_ (i:=5) (N:=some 13) #[true,true,true,true,true,true,false,true,false] rfl rfl (one_of HT_.out (by kernel_rfl)) (by decide) (fun K hK => ?_)
        refine Kd.R_append_rows_step (Kd.int .i64) (w0:=w) w.heap.size rfl (.const (.slice none 0 0)) (.tmp 12) 22 3 (.int .i64 0) 8 rfl Try.underlying22 info3 rfl (by decide) (by omega) (.slice none 0 0) ([] : List Int) l0_1 _ _ _ (fun k_ => some k_ ≠ (v402 : Value).ownBlock) (fun _ => False) rfl rfl ?aO ?aR (fun _ _ h => h) (fun _ h => h.elim) ?aF ?aB ?aS ?aL ?_
        (case aR => exact Kd.C_up (Kd.C_below HR0_1.out HB.out))
        (case aB => exact (hb_))
        (case aF => exact (fun k_ hk => Kd.fresh' (Kd.R_lt (Kd.R_up HO403.out)) k_ hk))
        (case aO => exact ((Kd.R_nil _ _ _ _ (fun k_ => some k_ ≠ (v402 : Value).ownBlock))))
        (case aS => exact (below_size (hb_)))
        (case aL => have:=LMc5.out;omega)
        intro v405 w14 ho hb hg hat
        rw [← Ny404.out] at ho
        have n0_:=Aside0.mk (blk_grown (blk_up BK399.out) hg (by simp [Value.ownBlock]))
        have n1_:=Aside0.mk (blk_grown (blk_up BK400.out) hg (by simp [Value.ownBlock]))
        have n2_:=Aside0.mk (Kd.R_after (Kd.R_apart_nil (Kd.R_up HO403.out)) hg hat)
        have n3_:=Aside0.mk (blk_grown (blk_up BK407.out) hg (by simp [Value.ownBlock]))
        have n4_:=Aside0.mk (hb)
        have n5_:=Aside0.mk (ho)
        clear BK399
        clear BK400
        clear HO403
        clear BK407
        clear HB
        have BK399:=n0_
        have BK400:=n1_
        have HO403:=n2_
        have BK407:=n3_
        have HB:=n4_
        have HO406:=n5_
        clear n0_ n1_ n2_ n3_ n4_ n5_
        clear ho hb hg hat
        obtain ⟨Ao15,co15,eo15⟩:=Kd.R_slice HO406.out
        (first|subst eo15|(injection eo15 with f1_ f2_ f3_;have f4_:=f1_.symm;have f5_:=f3_.symm;clear f1_ f2_ f3_;subst f4_;subst f5_))
        obtain ⟨Ao16,co16,eo16⟩:=Kd.R_slice HO403.out
        (first|subst eo16|(injection eo16 with f1_ f2_ f3_;have f4_:=f1_.symm;have f5_:=f3_.symm;clear f1_ f2_ f3_;subst f4_;subst f5_))
        refine hK.out _ _ ⟨(blk_cell BK399.out 0).trans rfl,(blk_cell BK399.out 1).trans rfl⟩ (fun hHeld => ?_)
        clear hK K
        refine norm_ (a':=?_) ?_ ?_
        rotate_left
        ·show Act.put _ (some 13) _ = _
         simp only [Act.put,List.setIfInBounds_toArray,List.set_cons_zero,List.set_cons_succ,i64_w,i32_w]
         rfl
        refine pureZ (i:=6) (N:=some 14) #[true,true,true,true,true,true,true,true,false] ?_
        exact norm_ (by simp only [putAll,Act.put,List.setIfInBounds_toArray,List.set_cons_zero,List.set_cons_succ]) (hCont (.slice Ao16 y401.length co16,.slice Ao15 y404.length co15,gb407) _ ⟨hHeld,(by (with_reducible repeat (first|apply Kd.R_alloc|apply Kd.R_drewN|apply Kd.R_drew));exact Kd.R_mono HO403.out (fun _ hk => hk.2)),(Kd.R_up HO406.out),(blk_up BK399.out),(blk_up BK400.out),(blk_up BK407.out),GW407.out,GE407.out,NB399_407.out,NB407_399.out,NB400_407.out,NB407_400.out,(hb_)⟩)
      ·skip
       refine box_step ?hg (N:=7) ?hd (cs:=#[.slice none 0 0,.slice none 0 0]) (t:=26) ?hr ?_;(case hd => rfl);(case hg => rfl);(case hr => first|(go_simp;done)|(go_simp;rfl))
       intro gb407 hg w12 hbox hb
       have n0_:=bkb BK399 hb
       have n1_:=bkb BK400 hb
       have n2_:=Aside0.mk (below_step (hb_) hb)
       have n3_:=Aside0.mk (hbox)
       have n4_:=Aside0.mk ((by rw [hg];exact (below_size (hb_)) : w.heap.size ≤ gb407))
       have n5_:=Aside0.mk ((by rw [hg];exact (below_size (hb_)) : w.heap.size ≤ gb407))
       have n6_:=Aside0.mk ((by rw [hg];exact Nat.ne_of_lt (blk_lt (blk_up BK399.out)) : gb399 ≠ gb407))
       have n7_:=Aside0.mk ((by rw [hg];exact Nat.ne_of_gt (blk_lt (blk_up BK399.out)) : gb407 ≠ gb399))
       have n8_:=Aside0.mk ((by rw [hg];exact Nat.ne_of_lt (blk_lt (blk_up BK400.out)) : gb400 ≠ gb407))
       have n9_:=Aside0.mk ((by rw [hg];exact Nat.ne_of_gt (blk_lt (blk_up BK400.out)) : gb407 ≠ gb400))
       clear BK399
       clear BK400
       clear HB
       have BK399:=n0_
       have BK400:=n1_
       have HB:=n2_
       have BK407:=n3_
       have GW407:=n4_
       have GE407:=n5_
       have NB399_407:=n6_
       have NB407_399:=n7_
       have NB400_407:=n8_
       have NB407_400:=n9_
       clear n0_ n1_ n2_ n3_ n4_ n5_ n6_ n7_ n8_ n9_
       clear hb hbox hg
       refine hK.out _ _ ⟨(blk_cell BK399.out 0).trans rfl,(blk_cell BK399.out 1).trans rfl⟩ (fun hHeld => ?_)
       clear hK K
       refine norm_ (a':=?_) ?_ ?_
       rotate_left
       ·show Act.put _ (some 7) _ = _
        simp only [Act.put,List.setIfInBounds_toArray,List.set_cons_zero,List.set_cons_succ,i64_w,i32_w]
        rfl
       refine one_ (i:=2) (N:=some 10) #[true,true,true,true,true,false,false,true,false] rfl rfl (one_of HT_.out (by kernel_rfl)) (by decide) (fun K hK => ?_)
       refine Kd.R_append_rows_step (Kd.int .i64) (w0:=w) w.heap.size rfl (.const (.slice none 0 0)) (.tmp 9) 22 3 (.int .i64 0) 8 rfl Try.underlying22 info3 rfl (by decide) (by omega) (.slice none 0 0) ([] : List Int) l0_0 _ _ _ (fun _ => True) (fun _ => False) rfl rfl ?aO ?aR (fun _ _ h => h) (fun _ h => h.elim) ?aF ?aB ?aS ?aL ?_
       (case aR => exact Kd.C_up (Kd.C_below HR0_0.out HB.out))
       (case aB => exact (hb_))
       (case aF => exact (fun _ _ => trivial))
       (case aO => exact ((Kd.R_nil _ _ _ _ (fun _ => True))))
       (case aS => exact (below_size (hb_)))
       (case aL => have:=LMc4.out;omega)
       intro v402 w13 ho hb hg hat
       rw [← Ny401.out] at ho
       have n0_:=Aside0.mk (blk_grown (blk_up BK399.out) hg (by simp [Value.ownBlock]))
       have n1_:=Aside0.mk (blk_grown (blk_up BK400.out) hg (by simp [Value.ownBlock]))
       have n2_:=Aside0.mk (blk_grown (blk_up BK407.out) hg (by simp [Value.ownBlock]))
       have n3_:=Aside0.mk (hb)
       have n4_:=Aside0.mk (ho)
       clear BK399
       clear BK400
       clear BK407
       clear HB
       have BK399:=n0_
       have BK400:=n1_
       have BK407:=n2_
       have HB:=n3_
       have HO403:=n4_
       clear n0_ n1_ n2_ n3_ n4_
       clear ho hb hg hat
       refine hK.out _ _ ⟨(blk_cell BK399.out 0).trans rfl,(blk_cell BK399.out 1).trans rfl⟩ (fun hHeld => ?_)
       clear hK K
       refine norm_ (a':=?_) ?_ ?_
       rotate_left
       ·show Act.put _ (some 10) _ = _
        simp only [Act.put,List.setIfInBounds_toArray,List.set_cons_zero,List.set_cons_succ,i64_w,i32_w]
        rfl
       refine one_ (i:=5) (N:=some 13) #[true,true,true,true,true,true,false,true,false] rfl rfl (one_of HT_.out (by kernel_rfl)) (by decide) (fun K hK => ?_)
       refine Kd.R_append_rows_step (Kd.int .i64) (w0:=w) w.heap.size rfl (.const (.slice none 0 0)) (.tmp 12) 22 3 (.int .i64 0) 8 rfl Try.underlying22 info3 rfl (by decide) (by omega) (.slice none 0 0) ([] : List Int) l0_1 _ _ _ (fun k_ => some k_ ≠ (v402 : Value).ownBlock) (fun _ => False) rfl rfl ?aO ?aR (fun _ _ h => h) (fun _ h => h.elim) ?aF ?aB ?aS ?aL ?_
       (case aR => exact Kd.C_up (Kd.C_below HR0_1.out HB.out))
       (case aB => exact (hb_))
       (case aF => exact (fun k_ hk => Kd.fresh' (Kd.R_lt (Kd.R_up HO403.out)) k_ hk))
       (case aO => exact ((Kd.R_nil _ _ _ _ (fun k_ => some k_ ≠ (v402 : Value).ownBlock))))
       (case aS => exact (below_size (hb_)))
       (case aL => have:=LMc5.out;omega)
       intro v405 w14 ho hb hg hat
       rw [← Ny404.out] at ho
       have n0_:=Aside0.mk (blk_grown (blk_up BK399.out) hg (by simp [Value.ownBlock]))
       have n1_:=Aside0.mk (blk_grown (blk_up BK400.out) hg (by simp [Value.ownBlock]))
       have n2_:=Aside0.mk (blk_grown (blk_up BK407.out) hg (by simp [Value.ownBlock]))
       have n3_:=Aside0.mk (Kd.R_after (Kd.R_apart_nil (Kd.R_up HO403.out)) hg hat)
       have n4_:=Aside0.mk (hb)
       have n5_:=Aside0.mk (ho)
       clear BK399
       clear BK400
       clear BK407
       clear HO403
       clear HB
       have BK399:=n0_
       have BK400:=n1_
       have BK407:=n2_
       have HO403:=n3_
       have HB:=n4_
       have HO406:=n5_
       clear n0_ n1_ n2_ n3_ n4_ n5_
       clear ho hb hg hat
       obtain ⟨Ao15,co15,eo15⟩:=Kd.R_slice HO406.out
       (first|subst eo15|(injection eo15 with f1_ f2_ f3_;have f4_:=f1_.symm;have f5_:=f3_.symm;clear f1_ f2_ f3_;subst f4_;subst f5_))
       obtain ⟨Ao16,co16,eo16⟩:=Kd.R_slice HO403.out
       (first|subst eo16|(injection eo16 with f1_ f2_ f3_;have f4_:=f1_.symm;have f5_:=f3_.symm;clear f1_ f2_ f3_;subst f4_;subst f5_))
       refine hK.out _ _ ⟨(blk_cell BK399.out 0).trans rfl,(blk_cell BK399.out 1).trans rfl⟩ (fun hHeld => ?_)
       clear hK K
       refine norm_ (a':=?_) ?_ ?_
       rotate_left
       ·show Act.put _ (some 13) _ = _
        simp only [Act.put,List.setIfInBounds_toArray,List.set_cons_zero,List.set_cons_succ,i64_w,i32_w]
        rfl
       refine pureZ (i:=6) (N:=some 14) #[true,true,true,true,true,true,true,true,false] ?_
       exact norm_ (by simp only [putAll,Act.put,List.setIfInBounds_toArray,List.set_cons_zero,List.set_cons_succ]) (hCont (.slice Ao16 y401.length co16,.slice Ao15 y404.length co15,gb407) _ ⟨hHeld,(by (with_reducible repeat (first|apply Kd.R_alloc|apply Kd.R_drewN|apply Kd.R_drew));exact Kd.R_mono HO403.out (fun _ hk => hk.2)),(Kd.R_up HO406.out),(blk_up BK399.out),(blk_up BK400.out),(blk_up BK407.out),GW407.out,GE407.out,NB399_407.out,NB407_399.out,NB400_407.out,NB407_400.out,(hb_)⟩)
     rintro ⟨v402,v405,gb407⟩ w17 ⟨hS_,h0_,h1_,h2_,h3_,h4_,h5_,h6_,h7_,h8_,h9_,h10_,h11_⟩
     have n0_ : Aside0 (Kd.R (Kd.int .i64) 3 w17 w.heap.size (fun k_ => some k_ ≠ (v405 : Value).ownBlock) v402 y401):=⟨h0_⟩
     have n1_ : Aside0 (Kd.R (Kd.int .i64) 3 w17 w.heap.size (fun k_ => some k_ ≠ (v402 : Value).ownBlock) v405 y404):=⟨h1_⟩
     have n2_ : Aside0 (w17.heap[gb399]? = some (.cells #[.slice A0_0 l0_0.length c0_0,.slice A0_1 l0_1.length c0_1] 26 (0,0))):=⟨h2_⟩
     have n3_ : Aside0 (w17.heap[gb400]? = some (.cells #[.slice none 0 0,.slice none 0 0] 26 (0,0))):=⟨h3_⟩
     have n4_ : Aside0 (w17.heap[gb407]? = some (.cells #[.slice none 0 0,.slice none 0 0] 26 (0,0))):=⟨h4_⟩
     have n5_ : Aside0 (w.heap.size ≤ gb407):=⟨h5_⟩
     have n6_ : Aside0 (w.heap.size ≤ gb407):=⟨h6_⟩
     have n7_ : Aside0 (gb399 ≠ gb407):=⟨h7_⟩
     have n8_ : Aside0 (gb407 ≠ gb399):=⟨h8_⟩
     have n9_ : Aside0 (gb400 ≠ gb407):=⟨h9_⟩
     have n10_ : Aside0 (gb407 ≠ gb400):=⟨h10_⟩
     have n11_ : Aside0 (Below w.heap.size w w17):=⟨h11_⟩
     clear BK399
     clear BK400
     clear HB
     clear h0_ h1_ h2_ h3_ h4_ h5_ h6_ h7_ h8_ h9_ h10_ h11_
     have HO403:=n0_
     have HO406:=n1_
     have BK399:=n2_
     have BK400:=n3_
     have BK407:=n4_
     have GW407:=n5_
     have GE407:=n6_
     have NB399_407:=n7_
     have NB407_399:=n8_
     have NB400_407:=n9_
     have NB407_400:=n10_
     have HB:=n11_
     clear n0_ n1_ n2_ n3_ n4_ n5_ n6_ n7_ n8_ n9_ n10_ n11_
     have hHeld : w17.cell? ⟨gb399,0,none⟩ = some (.slice A0_0 l0_0.length c0_0) ∧ w17.cell? ⟨gb399,1,none⟩ = some (.slice A0_1 l0_1.length c0_1):=hS_
     obtain ⟨Ao18,co18,eo18⟩:=Kd.R_slice HO406.out
     (first|subst eo18|(injection eo18 with f1_ f2_ f3_;have f4_:=f1_.symm;have f5_:=f3_.symm;clear f1_ f2_ f3_;subst f4_;subst f5_))
     obtain ⟨Ao19,co19,eo19⟩:=Kd.R_slice HO403.out
     (first|subst eo19|(injection eo19 with f1_ f2_ f3_;have f4_:=f1_.symm;have f5_:=f3_.symm;clear f1_ f2_ f3_;subst f4_;subst f5_))
     refine norm_ (a':=?_) ?_ ?_
     rotate_left
     ·simp only [putAll,Act.put,List.setIfInBounds_toArray,List.set_cons_zero,List.set_cons_succ]
      rfl
     refine one_ (i:=8) (N:=none) #[true,true,true,true,true,true,true,true,true] rfl rfl (one_of HT_.out (by kernel_rfl)) (by decide) (fun K hK => ?_)
     have hs20 : w17.cell? ⟨gb407,0,none⟩ = some (.slice none 0 0):=(blk_cell BK407.out 0).trans rfl
     have hfs20:=blk_frozen BK407.out 0
     have hns20_0:=NB399_407.out
     have hns20_1:=NB400_407.out
     have hms20_0:=NB407_399.out
     have hms20_1:=NB407_400.out
     have hs21 : w17.cell? ⟨gb407,1,none⟩ = some (.slice none 0 0):=(blk_cell BK407.out 1).trans rfl
     have hfs21:=blk_frozen BK407.out 1
     have hns21_0:=NB399_407.out
     have hns21_1:=NB400_407.out
     have hms21_0:=NB407_399.out
     have hms21_1:=NB407_400.out
     refine skip_ (w1:=?_) (by rfl) rfl ?_ ?_
     rotate_left
     ·go_simp
      rfl
     refine hK.out _ _ ⟨((cell_far (p:=⟨gb407,_,none⟩) NB399_407.out _).trans (((cell_far (p:=⟨gb407,_,none⟩) NB399_407.out _).trans (hHeld.1)))),((cell_far (p:=⟨gb407,_,none⟩) NB399_407.out _).trans (((cell_far (p:=⟨gb407,_,none⟩) NB399_407.out _).trans (hHeld.2))))⟩ (fun hHeld => ?_)
     clear hK K
     refine done_ (done_of HT_.out (by kernel_rfl)) ?_
     have n0_ : Aside0 (Kd.R (Kd.int .i64) 3 ((w17.setCell ⟨gb407,0,none⟩ (.slice Ao19 y401.length co19)).setCell ⟨gb407,1,none⟩ (.slice Ao18 y404.length co18)) w.heap.size (fun k_ => some k_ ≠ (.slice Ao18 y404.length co18 : Value).ownBlock) (.slice Ao19 y401.length co19) y401):=⟨by (with_reducible repeat (first|apply Kd.R_alloc|apply Kd.R_drewN|apply Kd.R_drew));exact Kd.R_mono (Kd.R_fars gb407 (Kd.R_types HO403.out BK407.out (by decide)) (fun _ hk => hk.2)) (fun _ hk => hk.1)⟩
     have n1_ : Aside0 (Kd.R (Kd.int .i64) 3 ((w17.setCell ⟨gb407,0,none⟩ (.slice Ao19 y401.length co19)).setCell ⟨gb407,1,none⟩ (.slice Ao18 y404.length co18)) w.heap.size (fun k_ => some k_ ≠ (.slice Ao19 y401.length co19 : Value).ownBlock) (.slice Ao18 y404.length co18) y404):=⟨by (with_reducible repeat (first|apply Kd.R_alloc|apply Kd.R_drewN|apply Kd.R_drew));exact Kd.R_mono (Kd.R_fars gb407 (Kd.R_types HO406.out BK407.out (by decide)) (fun _ hk => hk.2)) (fun _ hk => hk.1)⟩
     have n2_ : Aside0 (((w17.setCell ⟨gb407,0,none⟩ (.slice Ao19 y401.length co19)).setCell ⟨gb407,1,none⟩ (.slice Ao18 y404.length co18)).heap[gb399]? = some (.cells #[.slice A0_0 l0_0.length c0_0,.slice A0_1 l0_1.length c0_1] 26 (0,0))):=⟨by (with_reducible repeat (first|refine blk_drewN ?_ _|refine blk_drew ?_|refine blk_alloc ?_ _));refine blk_far ?_ NB399_407.out _;(with_reducible repeat (first|refine blk_drewN ?_ _|refine blk_drew ?_|refine blk_alloc ?_ _));refine blk_far ?_ NB399_407.out _;(with_reducible repeat (first|refine blk_drewN ?_ _|refine blk_drew ?_|refine blk_alloc ?_ _));exact BK399.out⟩
     have n3_ : Aside0 (((w17.setCell ⟨gb407,0,none⟩ (.slice Ao19 y401.length co19)).setCell ⟨gb407,1,none⟩ (.slice Ao18 y404.length co18)).heap[gb400]? = some (.cells #[.slice none 0 0,.slice none 0 0] 26 (0,0))):=⟨by (with_reducible repeat (first|refine blk_drewN ?_ _|refine blk_drew ?_|refine blk_alloc ?_ _));refine blk_far ?_ NB400_407.out _;(with_reducible repeat (first|refine blk_drewN ?_ _|refine blk_drew ?_|refine blk_alloc ?_ _));refine blk_far ?_ NB400_407.out _;(with_reducible repeat (first|refine blk_drewN ?_ _|refine blk_drew ?_|refine blk_alloc ?_ _));exact BK400.out⟩
     have n4_ : Aside0 (((w17.setCell ⟨gb407,0,none⟩ (.slice Ao19 y401.length co19)).setCell ⟨gb407,1,none⟩ (.slice Ao18 y404.length co18)).heap[gb407]? = some (.cells #[.slice Ao19 y401.length co19,.slice Ao18 y404.length co18] 26 (0,0))):=⟨by (with_reducible repeat (first|refine blk_drewN ?_ _|refine blk_drew ?_|refine blk_alloc ?_ _));exact blk_puts2 (blk_up BK407.out)⟩
     have n5_ : Aside0 (Below w.heap.size w ((w17.setCell ⟨gb407,0,none⟩ (.slice Ao19 y401.length co19)).setCell ⟨gb407,1,none⟩ (.slice Ao18 y404.length co18))):=⟨hb_⟩
     (try clear HO403)
     (try clear HO406)
     (try clear BK399)
     (try clear BK400)
     (try clear BK407)
     (try clear HB)
     generalize ((w17.setCell ⟨gb407,0,none⟩ (.slice Ao19 y401.length co19)).setCell ⟨gb407,1,none⟩ (.slice Ao18 y404.length co18)) = w22 at n0_ n1_ n2_ n3_ n4_ n5_ ⊢
     have HO403:=n0_
     have HO406:=n1_
     have BK399:=n2_
     have BK400:=n3_
     have BK407:=n4_
     have HB:=n5_
     clear n0_ n1_ n2_ n3_ n4_ n5_
     have hnb23:=NB407_399.out
     have hnc23:=NB399_407.out
     have hnb24:=NB407_400.out
     have hnc24:=NB400_407.out
     obtain ⟨hcz25_0,hcz25_1,hfz25_0,hfz25_1⟩:=cells2 BK407.out
     have p8 : 0 ≤ (a1 : Int):=of_decide_eq_true (by first|(with_reducible assumption)|assumption)
     have q8 : (a1 : Int) < ((y401.length : Int) : Int):=of_decide_eq_true (by first|(with_reducible assumption)|assumption)
     obtain ⟨go8,co8,eo8,gb8,gl8,cl8,HG8⟩:=Kd.R_form HO403.out (by omega)
     (first|cases eo8|(injection eo8 with ea_ en_ ec_;(first|subst ea_|(injection ea_ with ea_;subst ea_));subst ec_;clear en_))
     have GB8:=Aside0.mk gb8
     have GG8:=Aside0.mk HG8
     clear gb8 gl8 HG8
     obtain ⟨hx8_0,hf8_0⟩:=Kd.R_celln 0 HO403.out (a1 : Int) p8 q8
     replace p8:=eq_true p8
     replace q8:=eq_true q8
     obtain ⟨hy26_,hz26_⟩:=Kd.R_celln 0 HO403.out (a1 : Int) (of_decide_eq_true (by first|(with_reducible assumption)|assumption)) (of_decide_eq_true (by first|(with_reducible assumption)|assumption))
     have HP26:=Kd.R_putg HO403.out (a1 : Int) a2
     try go_wp2_with (first|((with_reducible refine gate_store (t:=3) (p:=19) rfl ?_);refine store_event (t:=3) (p:=19) (v:=?vo_w27) (w1:=(w22.setCell ⟨go8,(a1 : Int).toNat,none⟩ (.int .i64 a2))) ?hg ?ho ?hn ?hr ?_;(case ho => rfl);(case hg => rfl);(case hn => rfl);(case hr => first|(go_simp;done)|(go_simp;rfl));intro w27 hw;have hg : w22.grownBy w27 (some go8):=(by rw [hw];exact HP26.2);have hp_ : Kd.R (Kd.int .i64) 3 w27 w.heap.size (fun k_ => some k_ ≠ (.slice Ao18 y404.length co18 : Value).ownBlock) (.slice (some ⟨go8,0,none⟩) y401.length co19) y408:=(by rw [hw,Ny408.out];exact HP26.1);clear HP26;replace BK399:=Aside0.mk (blk_grown (blk_up BK399.out) hg (Kd.R_ne HO403.out BK399.out (by decide)));replace BK400:=Aside0.mk (blk_grown (blk_up BK400.out) hg (Kd.R_ne HO403.out BK400.out (by decide)));replace HO406:=Aside0.mk (Kd.R_after (v:=(.slice (some ⟨go8,0,none⟩) y401.length co19)) (v1:=(.slice (some ⟨go8,0,none⟩) y401.length co19)) (ok:=(fun _ => True)) (by (with_reducible repeat (first|apply Kd.R_alloc|apply Kd.R_drewN|apply Kd.R_drew));exact Kd.R_mono HO406.out (fun _ hk => ⟨trivial,hk⟩)) hg (.inl rfl));replace BK407:=Aside0.mk (blk_grown (blk_up BK407.out) hg (Kd.R_ne HO403.out BK407.out (by decide)));replace HO403:=Aside0.mk (hp_);replace HB:=Aside0.mk ((by rw [hw];exact below_set (HB.out) GB8.out : Below w.heap.size w w27));clear hg hw hp_;obtain ⟨hcz28_0,hcz28_1,hfz28_0,hfz28_1⟩:=cells2 BK407.out;have hnb29:=NB400_399.out;have hnc29:=NB399_400.out;obtain ⟨hcz30_0,hcz30_1,hfz30_0,hfz30_1⟩:=cells2 BK400.out))
     refine bodyPost_ret (results_cell_row rfl _ _ gb400 26 #[.slice (some ⟨go8,0,none⟩) y401.length co19,.slice Ao18 y404.length co18] (0,0) _ rfl (by (with_reducible repeat (first|refine blk_drewN ?_ _|refine blk_drew ?_|refine blk_alloc ?_ _));exact blk_puts2 (blk_up BK400.out)) Try.underlying26 rfl (by kernel_rfl)) rfl ?_
     exact ⟨_,_,by first|rfl|(simp [errW_none,errW_some] <;> rfl)|(simp [*,errW_none,errW_some] <;> rfl),by (with_reducible repeat (first|apply Kd.R_alloc|apply Kd.R_drewN|apply Kd.R_drew));exact Kd.R_mono (Kd.R_fars gb400 (Kd.R_types HO403.out BK400.out (by decide)) (fun _ hk => hk.2)) (fun _ hk => hk.1),by (with_reducible repeat (first|apply Kd.R_alloc|apply Kd.R_drewN|apply Kd.R_drew));exact Kd.R_mono (Kd.R_fars gb400 (Kd.R_types HO406.out BK400.out (by decide)) (fun _ hk => hk.2)) (fun _ hk => hk.1.2),hb_⟩
    ·rw [if_neg c7] at H
     exact absurd H (by simp)
   ·rw [if_neg c6] at H
    exact absurd H (by simp)
  ·rw [if_neg c5] at H
   exact absurd H (by simp)
 ·rw [if_neg c4] at H
  exact absurd H (by simp)

end Go.Proofs.Ytiencnnkphipoaa.P

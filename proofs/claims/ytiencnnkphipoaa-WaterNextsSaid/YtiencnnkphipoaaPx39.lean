/- Functions of this seat as plain Lean functions, with proofs that the Go code comes to just their answers, or what stands between them and a law's statement; no conditions. (Laid by a program of this session, out of the kit's print.) -/
import Derived.Test.YtiencnnkphipoaaPx0
import Derived.Test.YtiencnnkphipoaaPx1
import Derived.Test.YtiencnnkphipoaaPx5
import Derived.Test.YtiencnnkphipoaaPx6
import Derived.Test.YtiencnnkphipoaaPx8
import Derived.Test.YtiencnnkphipoaaPx25
import Derived.Test.YtiencnnkphipoaaPx27
import Derived.Laws.Cover3
namespace Go.Proofs.Ytiencnnkphipoaa.P
open Go.RowKit Go.Proofs.YtiencnnkphipoaaW.PrintWords Go.Proofs.YtiencnnkphipoaaW.PrintLast Go.Proofs.YtiencnnkphipoaaW.PrintMore
attribute [local go_sem] max2_int min2_int max_two min_two max_three min_three max_four min_four   -- for this text's walks alone
set_option linter.unusedVariables false
set_option linter.unusedSimpArgs false

/-! ### water_Next: function 26 -/
def water_Next.l0 : Nat → Int → Int → List Int → Int → List Int → List Int → Int → Int → List Int → List Int → List Bool → Option (List Int × Int)
 | 0,_,_,_,_,_,_,_,_,_,_,_ => none
 | k + 1,x2,x3,x12,x35,x819000,x819001,x832000,x832001,x832002,x832003,x832004 => if x35 < 4 then (if x35 = x3 then (water_Next.l0 k x2 x3 x12 (wrap64 (x35 + 1)) x819000 x819001 x832000 x832001 x832002 x832003 x832004) else ((water_ground_joined.f k x832000 x832001 x832002 x832003 x832004 x819000 x819001 x2 x35).bind fun t833 => (if t833 = true then (if x12.length < 17592186044416 then (water_Next.l0 k x2 x3 (x12 ++ [x35]) (wrap64 (x35 + 1)) x819000 x819001 x832000 x832001 x832002 x832003 x832004) else (none)) else (water_Next.l0 k x2 x3 x12 (wrap64 (x35 + 1)) x819000 x819001 x832000 x832001 x832002 x832003 x832004)))) else (if (x12.length : Int) = 0 then (if x3 ≥ 0 then ((water_ground_joined.f k x832000 x832001 x832002 x832003 x832004 x819000 x819001 x2 x3).bind fun t837 => (if t837 = true then (some ((([x3] : List Int)),0)) else (some (x12,0)))) else (some (x12,0))) else (some (x12,0)))
def water_Next.f (k : Nat) (a0_0 : Int) (a0_1 : Int) (l0_2 : List Int) (l1_0 : List Int) (l1_1 : List Int) (a2 : Int) (a3 : Int) : Option (List Int × Int) := (water_at.f k a0_0 a0_1 l0_2 l1_0 l1_1 a2).bind fun bt819 => (if bt819.2.2.2.2.2 = 0 then ((water_ground_wet.f bt819.1 bt819.2.1 bt819.2.2.1 bt819.2.2.2.1 bt819.2.2.2.2.1 l1_0 l1_1 a2).bind fun t832 => (if t832 = true then (if a3 < (-1) then (some (([] : List Int), 1)) else (if a3 > 3 then (some (([] : List Int), 1)) else (water_Next.l0 k a2 a3 ([] : List Int) 0 l1_0 l1_1 bt819.1 bt819.2.1 bt819.2.2.1 bt819.2.2.2.1 bt819.2.2.2.2.1))) else (some (([] : List Int), 2)))) else (some (([] : List Int), bt819.2.2.2.2.2)))
theorem water_Next.mono_l : ∀ k, (∀ y0 y1 y2 y3 y4 y5 y6 y7 y8 y9 y10, LeO (water_Next.l0 k y0 y1 y2 y3 y4 y5 y6 y7 y8 y9 y10) (water_Next.l0 (k + 1) y0 y1 y2 y3 y4 y5 y6 y7 y8 y9 y10))
 | 0 => fun _ _ _ _ _ _ _ _ _ _ _ r h => by simp [water_Next.l0] at h
 | k + 1 => by
  have ih0:=water_Next.mono_l k
  ·intro y0 y1 y2 y3 y4 y5 y6 y7 y8 y9 y10
   unfold water_Next.l0
   repeat' first
   | (with_reducible exact ih0 _ _ _ _ _ _ _ _ _ _ _)
   | (with_reducible exact water_at.mono _ _ _ _ _ _ _)
   | (with_reducible exact water_ground_joined.mono _ _ _ _ _ _ _ _ _ _)
   | (with_reducible exact LeO.refl _)
   | (with_reducible exact LeO.none _)
   | (with_reducible refine LeO.ite ?_ ?_)
   | (with_reducible refine LeO.bind ?_ (fun _ => ?_))
   | exact ih0 _ _ _ _ _ _ _ _ _ _ _
   | exact water_at.mono _ _ _ _ _ _ _
   | exact water_ground_joined.mono _ _ _ _ _ _ _ _ _ _
   | exact LeO.none _
   | refine LeO.ite ?_ ?_
   | refine LeO.bind ?_ (fun _ => ?_)
theorem water_Next.mono : ∀ a0 a1 a2 a3 a4 a5 a6 k, LeO (water_Next.f k a0 a1 a2 a3 a4 a5 a6) (water_Next.f (k + 1) a0 a1 a2 a3 a4 a5 a6) := by
 intro a0 a1 a2 a3 a4 a5 a6 k
 have ih0:=water_Next.mono_l k
 unfold water_Next.f
 repeat' first
   | (with_reducible exact ih0 _ _ _ _ _ _ _ _ _ _ _)
   | (with_reducible exact water_at.mono _ _ _ _ _ _ _)
   | (with_reducible exact water_ground_joined.mono _ _ _ _ _ _ _ _ _ _)
   | (with_reducible exact LeO.refl _)
   | (with_reducible exact LeO.none _)
   | (with_reducible refine LeO.ite ?_ ?_)
   | (with_reducible refine LeO.bind ?_ (fun _ => ?_))
   | exact ih0 _ _ _ _ _ _ _ _ _ _ _
   | exact water_at.mono _ _ _ _ _ _ _
   | exact water_ground_joined.mono _ _ _ _ _ _ _ _ _ _
   | exact LeO.none _
   | refine LeO.ite ?_ ?_
   | refine LeO.bind ?_ (fun _ => ?_)
set_option maxHeartbeats 8000000 in
set_option maxRecDepth 100000 in
theorem water_Next.calls (k : Nat) (a0_0 : Int) (a0_1 : Int) (A0_2 : Option Addr) (c0_2 : Nat) (l0_2 : List Int) (A1_0 : Option Addr) (c1_0 : Nat) (l1_0 : List Int) (A1_1 : Option Addr) (c1_1 : Nat) (l1_1 : List Int) (a2 : Int) (a3 : Int) (r1 : List Int) (r2 : Int) (w : World) (hr0_2 : Kd.C (Kd.int .i64) w A0_2 l0_2.length l0_2) (hc0_2 : l0_2.length ≤ c0_2) (hr1_0 : Kd.C (Kd.int .i64) w A1_0 l1_0.length l1_0) (hc1_0 : l1_0.length ≤ c1_0) (hr1_1 : Kd.C (Kd.int .i64) w A1_1 l1_1.length l1_1) (hc1_1 : l1_1.length ≤ c1_1) (h : water_Next.f k a0_0 a0_1 l0_2 l1_0 l1_1 a2 a3 = some (r1, r2)) :
  Calls Try.prog 26 #[.agg #[.int .i64 a0_0,.int .i64 a0_1,.slice A0_2 l0_2.length c0_2],.agg #[.slice A1_0 l1_0.length c1_0,.slice A1_1 l1_1.length c1_1],.int .i64 a2,.int .i64 a3] w fun e w' => ∃ v0_ : Value,e = .returned (.tuple #[v0_,.int .i64 r2]) ∧ Kd.R (Kd.int .i64) 3 w' w.heap.size (fun _ => True) v0_ r1 ∧ Below w.heap.size w w':=by
 have hu24:=Try.underlying24
 have hu26:=Try.underlying26
 have hu52:=Try.underlying52
 have HR0_2:=Aside0.mk hr0_2
 have HC0_2:=Aside0.mk hc0_2
 clear hr0_2 hc0_2
 have HR1_0:=Aside0.mk hr1_0
 have HC1_0:=Aside0.mk hc1_0
 clear hr1_0 hc1_0
 have HR1_1:=Aside0.mk hr1_1
 have HC1_1:=Aside0.mk hc1_1
 clear hr1_1 hc1_1
 have HB:=Aside0.mk (Below.refl w.heap.size w)
 have H : ((water_at.f k a0_0 a0_1 l0_2 l1_0 l1_1 a2).bind fun bt819 => (if bt819.2.2.2.2.2 = 0 then ((water_ground_wet.f bt819.1 bt819.2.1 bt819.2.2.1 bt819.2.2.2.1 bt819.2.2.2.2.1 l1_0 l1_1 a2).bind fun t832 => (if t832 = true then (if a3 < (-1) then (some (([] : List Int),1)) else (if a3 > 3 then (some (([] : List Int),1)) else (water_Next.l0 k a2 a3 ([] : List Int) 0 l1_0 l1_1 bt819.1 bt819.2.1 bt819.2.2.1 bt819.2.2.2.1 bt819.2.2.2.2.1))) else (some (([] : List Int),2)))) else (some (([] : List Int),bt819.2.2.2.2.2)))) = some (r1,r2):=h
 clear h
 replace H:=Option.bind_eq_some_iff.mp H
 obtain ⟨⟨t819,t820,t821,t824,t827,t830⟩,A50,H⟩:=H
 replace H : (if t830 = 0 then ((water_ground_wet.f t819 t820 t821 t824 t827 l1_0 l1_1 a2).bind fun t832 => (if t832 = true then (if a3 < (-1) then (some (([] : List Int),1)) else (if a3 > 3 then (some (([] : List Int),1)) else (water_Next.l0 k a2 a3 ([] : List Int) 0 l1_0 l1_1 t819 t820 t821 t824 t827))) else (some (([] : List Int),2)))) else (some (([] : List Int),t830))) = some (r1,r2):=H
 have A5:=Aside0.mk A50
 clear A50
 by_cases c6 : t830 = 0
 rotate_left
 ·rw [if_neg c6] at H
  have c6b0 : (t830 == 0) = false:=beq_eq_false_iff_ne.mpr c6
  have c6b1 : (t830 != 0) = true:=bne_iff_ne.mpr c6
  simp only [Option.some.injEq,Prod.mk.injEq] at H
  obtain ⟨rfl,rfl⟩:=H
  go_enter Try.func26,Try.ntmps26
  go_wp2_with (first|((with_reducible refine gate_dst (N:=4) rfl ?_);refine box_ev (N:=4) (cs:=#[.int .i64 a0_0,.int .i64 a0_1,.slice A0_2 l0_2.length c0_2]) (t:=24) ?_;intro gb817 hg w107 hbox hb;have BK817:=Aside0.mk (hbox);have GW817 : Aside0 (w.heap.size ≤ gb817):=gsz hg;have GE817:=GW817;replace HB:=Aside0.mk (below_step (hb_) hb);clear hb hbox hg)|((with_reducible refine gate_dst (N:=5) rfl ?_);refine box_ev (N:=5) (cs:=#[.slice A1_0 l1_0.length c1_0,.slice A1_1 l1_1.length c1_1]) (t:=26) ?_;intro gb818 hg w108 hbox hb;have BK818:=Aside0.mk (hbox);have GW818 : Aside0 (w.heap.size ≤ gb818):=gsz hg;have GE818:=GW818;have NB817_818:=nbl BK817 hg;have NB818_817:=nbr BK817 hg;replace BK817:=bkb BK817 hb;replace HB:=Aside0.mk (below_step (hb_) hb);clear hb hbox hg;have hnb109:=NB817_818.out;have hnc109:=NB818_817.out;obtain ⟨hcz110_0,hcz110_1,hcz110_2,hfz110_0,hfz110_1,hfz110_2⟩:=cells3 BK817.out;obtain ⟨hcz111_0,hcz111_1,hfz111_0,hfz111_1⟩:=cells2 BK818.out)|((with_reducible refine gate_callee (f:=40) rfl ?_);refine goesL_ (some 18) rfl rfl Try.func40 (by kernel_rfl) rfl #[.agg #[.int .i64 a0_0,.int .i64 a0_1,.slice A0_2 l0_2.length c0_2],.agg #[.slice A1_0 l1_0.length c1_0,.slice A1_1 l1_1.length c1_1],.int .i64 a2] rfl (by (try simp only [List.map_toArray,List.map_cons,List.map_nil]);first|done|rfl|(simp only [List.length_drop,List.length_take];rfl)) ?_;(with_reducible refine (water_at.calls k a0_0 a0_1 _ _ l0_2 _ _ l1_0 _ _ l1_1 a2 t819 t820 t821 t824 t827 t830 _ ?side1 ?side2 ?side3 ?side4 ?side5 ?side6 A5.out).mono ?_);(case side1 => exact Kd.C_up (Kd.C_below HR0_2.out HB.out));(case side2 => exact HC0_2.out);(case side3 => exact Kd.C_up (Kd.C_below HR1_0.out HB.out));(case side4 => exact HC1_0.out);(case side5 => exact Kd.C_up (Kd.C_below HR1_1.out HB.out));(case side6 => exact HC1_1.out);rintro e w112 ⟨v822,v825,v828,rfl,ho0,ho1,ho2,hb⟩;refine ⟨_,rfl,?_⟩;have HO823:=rlo ho0;have HO826:=rlo ho1;have HO829:=rlo ho2;replace BK817:=bkb BK817 hb;replace BK818:=bkb BK818 hb;replace HB:=Aside0.mk (below_step (hb_) hb))|((with_reducible refine gate_dst (N:=10) rfl ?_);refine box_ev (N:=10) (cs:=#[.int .i64 0,.int .i64 0,.slice none 0 0,.slice none 0 0,.slice none 0 0]) (t:=52) ?_;intro gb831 hg w113 hbox hb;have BK831:=Aside0.mk (hbox);have GW831 : Aside0 (w.heap.size ≤ gb831):=gsz hg;have GE831:=GW831;have NB817_831:=nbl BK817 hg;have NB831_817:=nbr BK817 hg;have NB818_831:=nbl BK818 hg;have NB831_818:=nbr BK818 hg;replace HO823:=rbw HO823 hb;replace HO826:=rbw HO826 hb;replace HO829:=rbw HO829 hb;replace BK817:=bkb BK817 hb;replace BK818:=bkb BK818 hb;replace HB:=Aside0.mk (below_step (hb_) hb);clear hb hbox hg;have hnb114:=NB831_817.out;have hnc114:=NB817_831.out;have hnb115:=NB831_818.out;have hnc115:=NB818_831.out;obtain ⟨hcz116_0,hcz116_1,hcz116_2,hcz116_3,hcz116_4,hfz116_0,hfz116_1,hfz116_2,hfz116_3,hfz116_4⟩:=cells5 BK831.out;obtain ⟨Ao117,co117,eo117⟩:=Kd.R_slice HO823.out;subst eo117;obtain ⟨Ao118,co118,eo118⟩:=Kd.R_slice HO826.out;subst eo118;obtain ⟨Ao119,co119,eo119⟩:=Kd.R_slice HO829.out;subst eo119))
  go_ret2
  exact ⟨_,by first|rfl|(simp [errW_none,errW_some] <;> rfl)|(simp [*,errW_none,errW_some] <;> rfl),by first|exact Kd.R_nil _ _ _ _ _|exact Kd.N_nil _ _ _ _ _|exact Kd.V_nil _ _ _ _ _|exact Kd.Q_nil _ _ _ _ _|exact Kd.S_nil _ _ _ _ _,hb_⟩
 rw [if_pos c6] at H
 have c6b0 : (t830 == 0) = true:=beq_iff_eq.mpr c6
 have c6b1 : (t830 != 0) = false:=bne_eq_false_iff_eq.mpr c6
 clear c6
 replace H:=Option.bind_eq_some_iff.mp H
 obtain ⟨t832,A70,H⟩:=H
 replace H : (if t832 = true then (if a3 < (-1) then (some (([] : List Int),1)) else (if a3 > 3 then (some (([] : List Int),1)) else (water_Next.l0 k a2 a3 ([] : List Int) 0 l1_0 l1_1 t819 t820 t821 t824 t827))) else (some (([] : List Int),2))) = some (r1,r2):=H
 have A7:=Aside0.mk A70
 clear A70
 by_cases c8 : t832 = true
 ·subst c8
  have H1 : (if a3 < (-1) then (some (([] : List Int),1)) else (if a3 > 3 then (some (([] : List Int),1)) else (water_Next.l0 k a2 a3 ([] : List Int) 0 l1_0 l1_1 t819 t820 t821 t824 t827))) = some (r1,r2):=by rw [if_pos rfl] at H;exact H
  clear H
  have H:=H1
  clear H1
  by_cases c9 : a3 < (-1)
  ·rw [if_pos c9] at H
   have c9b0 : decide (a3 < (-1)) = true:=decide_eq_true c9
   clear c9
   simp only [Option.some.injEq,Prod.mk.injEq] at H
   obtain ⟨rfl,rfl⟩:=H
   go_enter Try.func26,Try.ntmps26
   go_wp2_with (first|((with_reducible refine gate_dst (N:=4) rfl ?_);refine box_ev (N:=4) (cs:=#[.int .i64 a0_0,.int .i64 a0_1,.slice A0_2 l0_2.length c0_2]) (t:=24) ?_;intro gb817 hg w10 hbox hb;have BK817:=Aside0.mk (hbox);have GW817 : Aside0 (w.heap.size ≤ gb817):=gsz hg;have GE817:=GW817;replace HB:=Aside0.mk (below_step (hb_) hb);clear hb hbox hg)|((with_reducible refine gate_dst (N:=5) rfl ?_);refine box_ev (N:=5) (cs:=#[.slice A1_0 l1_0.length c1_0,.slice A1_1 l1_1.length c1_1]) (t:=26) ?_;intro gb818 hg w11 hbox hb;have BK818:=Aside0.mk (hbox);have GW818 : Aside0 (w.heap.size ≤ gb818):=gsz hg;have GE818:=GW818;have NB817_818:=nbl BK817 hg;have NB818_817:=nbr BK817 hg;replace BK817:=bkb BK817 hb;replace HB:=Aside0.mk (below_step (hb_) hb);clear hb hbox hg;have hnb12:=NB817_818.out;have hnc12:=NB818_817.out;obtain ⟨hcz13_0,hcz13_1,hcz13_2,hfz13_0,hfz13_1,hfz13_2⟩:=cells3 BK817.out;obtain ⟨hcz14_0,hcz14_1,hfz14_0,hfz14_1⟩:=cells2 BK818.out)|((with_reducible refine gate_callee (f:=40) rfl ?_);refine goesL_ (some 18) rfl rfl Try.func40 (by kernel_rfl) rfl #[.agg #[.int .i64 a0_0,.int .i64 a0_1,.slice A0_2 l0_2.length c0_2],.agg #[.slice A1_0 l1_0.length c1_0,.slice A1_1 l1_1.length c1_1],.int .i64 a2] rfl (by (try simp only [List.map_toArray,List.map_cons,List.map_nil]);first|done|rfl|(simp only [List.length_drop,List.length_take];rfl)) ?_;(with_reducible refine (water_at.calls k a0_0 a0_1 _ _ l0_2 _ _ l1_0 _ _ l1_1 a2 t819 t820 t821 t824 t827 t830 _ ?side1 ?side2 ?side3 ?side4 ?side5 ?side6 A5.out).mono ?_);(case side1 => exact Kd.C_up (Kd.C_below HR0_2.out HB.out));(case side2 => exact HC0_2.out);(case side3 => exact Kd.C_up (Kd.C_below HR1_0.out HB.out));(case side4 => exact HC1_0.out);(case side5 => exact Kd.C_up (Kd.C_below HR1_1.out HB.out));(case side6 => exact HC1_1.out);rintro e w15 ⟨v822,v825,v828,rfl,ho0,ho1,ho2,hb⟩;refine ⟨_,rfl,?_⟩;have HO823:=rlo ho0;have HO826:=rlo ho1;have HO829:=rlo ho2;replace BK817:=bkb BK817 hb;replace BK818:=bkb BK818 hb;replace HB:=Aside0.mk (below_step (hb_) hb))|((with_reducible refine gate_dst (N:=10) rfl ?_);refine box_ev (N:=10) (cs:=#[.int .i64 0,.int .i64 0,.slice none 0 0,.slice none 0 0,.slice none 0 0]) (t:=52) ?_;intro gb831 hg w16 hbox hb;have BK831:=Aside0.mk (hbox);have GW831 : Aside0 (w.heap.size ≤ gb831):=gsz hg;have GE831:=GW831;have NB817_831:=nbl BK817 hg;have NB831_817:=nbr BK817 hg;have NB818_831:=nbl BK818 hg;have NB831_818:=nbr BK818 hg;replace HO823:=rbw HO823 hb;replace HO826:=rbw HO826 hb;replace HO829:=rbw HO829 hb;replace BK817:=bkb BK817 hb;replace BK818:=bkb BK818 hb;replace HB:=Aside0.mk (below_step (hb_) hb);clear hb hbox hg;have hnb17:=NB831_817.out;have hnc17:=NB817_831.out;have hnb18:=NB831_818.out;have hnc18:=NB818_831.out;obtain ⟨hcz19_0,hcz19_1,hcz19_2,hcz19_3,hcz19_4,hfz19_0,hfz19_1,hfz19_2,hfz19_3,hfz19_4⟩:=cells5 BK831.out;obtain ⟨Ao20,co20,eo20⟩:=Kd.R_slice HO823.out;subst eo20;obtain ⟨Ao21,co21,eo21⟩:=Kd.R_slice HO826.out;subst eo21;obtain ⟨Ao22,co22,eo22⟩:=Kd.R_slice HO829.out;subst eo22;obtain ⟨hcz23_0,hcz23_1,hfz23_0,hfz23_1⟩:=cells2 BK818.out)|((with_reducible refine gate_callee (f:=45) rfl ?_);refine goesL_ (some 27) rfl rfl Try.func45 (by kernel_rfl) rfl #[.agg #[.int .i64 t819,.int .i64 t820,.slice Ao20 t821.length co20,.slice Ao21 t824.length co21,.slice Ao22 t827.length co22],.agg #[.slice A1_0 l1_0.length c1_0,.slice A1_1 l1_1.length c1_1],.int .i64 a2] rfl (by (try simp only [List.map_toArray,List.map_cons,List.map_nil]);first|done|rfl|(simp only [List.length_drop,List.length_take];rfl)) ?_;(with_reducible refine (water_ground_wet.calls t819 t820 _ _ t821 _ _ t824 _ _ t827 _ _ l1_0 _ _ l1_1 a2 true _ ?side1 ?side2 ?side3 ?side4 ?side5 ?side6 ?side7 ?side8 ?side9 ?side10 A7.out).mono ?_);(case side1 => refine (Kd.R_reads' (e:=3) (base:=w.heap.size) (ok:=fun k_ => some k_ ≠ (.slice Ao21 t824.length co21 : Value).ownBlock) (n:=t821.length) (c:=co20) ?_).2.2;exact (by (with_reducible repeat (first|apply Kd.R_alloc|apply Kd.R_drewN|apply Kd.R_drew));exact (Kd.R_mono (Kd.R_fars gb831 (Kd.R_types HO823.out BK831.out (by decide)) (fun _ hk => hk.2)) (fun _ h_ => h_.1))));(case side2 => exact (Kd.R_reads' HO823.out).2.1);(case side3 => refine (Kd.R_reads' (e:=3) (base:=w.heap.size) (ok:=fun k_ => some k_ ≠ (.slice Ao20 t821.length co20 : Value).ownBlock) (n:=t824.length) (c:=co21) ?_).2.2;exact (by (with_reducible repeat (first|apply Kd.R_alloc|apply Kd.R_drewN|apply Kd.R_drew));exact (Kd.R_mono (Kd.R_fars gb831 (Kd.R_types HO826.out BK831.out (by decide)) (fun _ hk => hk.2)) (fun _ h_ => h_.1))));(case side4 => exact (Kd.R_reads' HO826.out).2.1);(case side5 => refine (Kd.R_reads' (e:=4) (base:=w.heap.size) (ok:=fun k_ => True) (n:=t827.length) (c:=co22) ?_).2.2;exact (by (with_reducible repeat (first|apply Kd.R_alloc|apply Kd.R_drewN|apply Kd.R_drew));exact (Kd.R_mono (Kd.R_fars gb831 (Kd.R_types HO829.out BK831.out (by decide)) (fun _ hk => hk.2)) (fun _ h_ => h_.1))));(case side6 => exact (Kd.R_reads' HO829.out).2.1);(case side7 => exact Kd.C_below HR1_0.out (hb_));(case side8 => exact HC1_0.out);(case side9 => exact Kd.C_below HR1_1.out (hb_));(case side10 => exact HC1_1.out);rintro e w24 ⟨rfl,hb⟩;refine ⟨_,rfl,?_⟩;replace HO823:=Aside0.mk (Kd.R_below (by (with_reducible repeat (first|apply Kd.R_alloc|apply Kd.R_drewN|apply Kd.R_drew));exact (Kd.R_mono (Kd.R_fars gb831 (Kd.R_types HO823.out BK831.out (by decide)) (fun _ hk => hk.2)) (fun _ h_ => h_.1))) hb);replace HO826:=Aside0.mk (Kd.R_below (by (with_reducible repeat (first|apply Kd.R_alloc|apply Kd.R_drewN|apply Kd.R_drew));exact (Kd.R_mono (Kd.R_fars gb831 (Kd.R_types HO826.out BK831.out (by decide)) (fun _ hk => hk.2)) (fun _ h_ => h_.1))) hb);replace HO829:=Aside0.mk (Kd.R_below (by (with_reducible repeat (first|apply Kd.R_alloc|apply Kd.R_drewN|apply Kd.R_drew));exact (Kd.R_mono (Kd.R_fars gb831 (Kd.R_types HO829.out BK831.out (by decide)) (fun _ hk => hk.2)) (fun _ h_ => h_.1))) hb);replace BK817:=Aside0.mk (blk_below (g:=gb817) (o:=.cells #[.int .i64 a0_0,.int .i64 a0_1,.slice A0_2 l0_2.length c0_2] 24 (0,0)) (by (with_reducible repeat (first|refine blk_drewN ?_ _|refine blk_drew ?_|refine blk_alloc ?_ _));refine blk_far ?_ NB817_831.out _;(with_reducible repeat (first|refine blk_drewN ?_ _|refine blk_drew ?_|refine blk_alloc ?_ _));refine blk_far ?_ NB817_831.out _;(with_reducible repeat (first|refine blk_drewN ?_ _|refine blk_drew ?_|refine blk_alloc ?_ _));refine blk_far ?_ NB817_831.out _;(with_reducible repeat (first|refine blk_drewN ?_ _|refine blk_drew ?_|refine blk_alloc ?_ _));refine blk_far ?_ NB817_831.out _;(with_reducible repeat (first|refine blk_drewN ?_ _|refine blk_drew ?_|refine blk_alloc ?_ _));refine blk_far ?_ NB817_831.out _;(with_reducible repeat (first|refine blk_drewN ?_ _|refine blk_drew ?_|refine blk_alloc ?_ _));exact BK817.out) hb);replace BK818:=Aside0.mk (blk_below (g:=gb818) (o:=.cells #[.slice A1_0 l1_0.length c1_0,.slice A1_1 l1_1.length c1_1] 26 (0,0)) (by (with_reducible repeat (first|refine blk_drewN ?_ _|refine blk_drew ?_|refine blk_alloc ?_ _));refine blk_far ?_ NB818_831.out _;(with_reducible repeat (first|refine blk_drewN ?_ _|refine blk_drew ?_|refine blk_alloc ?_ _));refine blk_far ?_ NB818_831.out _;(with_reducible repeat (first|refine blk_drewN ?_ _|refine blk_drew ?_|refine blk_alloc ?_ _));refine blk_far ?_ NB818_831.out _;(with_reducible repeat (first|refine blk_drewN ?_ _|refine blk_drew ?_|refine blk_alloc ?_ _));refine blk_far ?_ NB818_831.out _;(with_reducible repeat (first|refine blk_drewN ?_ _|refine blk_drew ?_|refine blk_alloc ?_ _));refine blk_far ?_ NB818_831.out _;(with_reducible repeat (first|refine blk_drewN ?_ _|refine blk_drew ?_|refine blk_alloc ?_ _));exact BK818.out) hb);replace BK831:=Aside0.mk (blk_below (g:=gb831) (o:=.cells #[.int .i64 t819,.int .i64 t820,.slice Ao20 t821.length co20,.slice Ao21 t824.length co21,.slice Ao22 t827.length co22] 52 (0,0)) (by (with_reducible repeat (first|refine blk_drewN ?_ _|refine blk_drew ?_|refine blk_alloc ?_ _));exact blk_puts5 (blk_up BK831.out)) hb);replace HB:=Aside0.mk (below_step (hb_) hb)))
   go_ret2
   exact ⟨_,by first|rfl|(simp [errW_none,errW_some] <;> rfl)|(simp [*,errW_none,errW_some] <;> rfl),by first|exact Kd.R_nil _ _ _ _ _|exact Kd.N_nil _ _ _ _ _|exact Kd.V_nil _ _ _ _ _|exact Kd.Q_nil _ _ _ _ _|exact Kd.S_nil _ _ _ _ _,hb_⟩
  rw [if_neg c9] at H
  have c9b0 : decide (a3 < (-1)) = false:=decide_eq_false c9
  clear c9
  by_cases c25 : a3 > 3
  ·rw [if_pos c25] at H
   have c25b0 : decide (3 < a3) = true:=decide_eq_true c25
   clear c25
   simp only [Option.some.injEq,Prod.mk.injEq] at H
   obtain ⟨rfl,rfl⟩:=H
   go_enter Try.func26,Try.ntmps26
   go_wp2_with (first|((with_reducible refine gate_dst (N:=4) rfl ?_);refine box_ev (N:=4) (cs:=#[.int .i64 a0_0,.int .i64 a0_1,.slice A0_2 l0_2.length c0_2]) (t:=24) ?_;intro gb817 hg w26 hbox hb;have BK817:=Aside0.mk (hbox);have GW817 : Aside0 (w.heap.size ≤ gb817):=gsz hg;have GE817:=GW817;replace HB:=Aside0.mk (below_step (hb_) hb);clear hb hbox hg)|((with_reducible refine gate_dst (N:=5) rfl ?_);refine box_ev (N:=5) (cs:=#[.slice A1_0 l1_0.length c1_0,.slice A1_1 l1_1.length c1_1]) (t:=26) ?_;intro gb818 hg w27 hbox hb;have BK818:=Aside0.mk (hbox);have GW818 : Aside0 (w.heap.size ≤ gb818):=gsz hg;have GE818:=GW818;have NB817_818:=nbl BK817 hg;have NB818_817:=nbr BK817 hg;replace BK817:=bkb BK817 hb;replace HB:=Aside0.mk (below_step (hb_) hb);clear hb hbox hg;have hnb28:=NB817_818.out;have hnc28:=NB818_817.out;obtain ⟨hcz29_0,hcz29_1,hcz29_2,hfz29_0,hfz29_1,hfz29_2⟩:=cells3 BK817.out;obtain ⟨hcz30_0,hcz30_1,hfz30_0,hfz30_1⟩:=cells2 BK818.out)|((with_reducible refine gate_callee (f:=40) rfl ?_);refine goesL_ (some 18) rfl rfl Try.func40 (by kernel_rfl) rfl #[.agg #[.int .i64 a0_0,.int .i64 a0_1,.slice A0_2 l0_2.length c0_2],.agg #[.slice A1_0 l1_0.length c1_0,.slice A1_1 l1_1.length c1_1],.int .i64 a2] rfl (by (try simp only [List.map_toArray,List.map_cons,List.map_nil]);first|done|rfl|(simp only [List.length_drop,List.length_take];rfl)) ?_;(with_reducible refine (water_at.calls k a0_0 a0_1 _ _ l0_2 _ _ l1_0 _ _ l1_1 a2 t819 t820 t821 t824 t827 t830 _ ?side1 ?side2 ?side3 ?side4 ?side5 ?side6 A5.out).mono ?_);(case side1 => exact Kd.C_up (Kd.C_below HR0_2.out HB.out));(case side2 => exact HC0_2.out);(case side3 => exact Kd.C_up (Kd.C_below HR1_0.out HB.out));(case side4 => exact HC1_0.out);(case side5 => exact Kd.C_up (Kd.C_below HR1_1.out HB.out));(case side6 => exact HC1_1.out);rintro e w31 ⟨v822,v825,v828,rfl,ho0,ho1,ho2,hb⟩;refine ⟨_,rfl,?_⟩;have HO823:=rlo ho0;have HO826:=rlo ho1;have HO829:=rlo ho2;replace BK817:=bkb BK817 hb;replace BK818:=bkb BK818 hb;replace HB:=Aside0.mk (below_step (hb_) hb))|((with_reducible refine gate_dst (N:=10) rfl ?_);refine box_ev (N:=10) (cs:=#[.int .i64 0,.int .i64 0,.slice none 0 0,.slice none 0 0,.slice none 0 0]) (t:=52) ?_;intro gb831 hg w32 hbox hb;have BK831:=Aside0.mk (hbox);have GW831 : Aside0 (w.heap.size ≤ gb831):=gsz hg;have GE831:=GW831;have NB817_831:=nbl BK817 hg;have NB831_817:=nbr BK817 hg;have NB818_831:=nbl BK818 hg;have NB831_818:=nbr BK818 hg;replace HO823:=rbw HO823 hb;replace HO826:=rbw HO826 hb;replace HO829:=rbw HO829 hb;replace BK817:=bkb BK817 hb;replace BK818:=bkb BK818 hb;replace HB:=Aside0.mk (below_step (hb_) hb);clear hb hbox hg;have hnb33:=NB831_817.out;have hnc33:=NB817_831.out;have hnb34:=NB831_818.out;have hnc34:=NB818_831.out;obtain ⟨hcz35_0,hcz35_1,hcz35_2,hcz35_3,hcz35_4,hfz35_0,hfz35_1,hfz35_2,hfz35_3,hfz35_4⟩:=cells5 BK831.out;obtain ⟨Ao36,co36,eo36⟩:=Kd.R_slice HO823.out;subst eo36;obtain ⟨Ao37,co37,eo37⟩:=Kd.R_slice HO826.out;subst eo37;obtain ⟨Ao38,co38,eo38⟩:=Kd.R_slice HO829.out;subst eo38;obtain ⟨hcz39_0,hcz39_1,hfz39_0,hfz39_1⟩:=cells2 BK818.out)|((with_reducible refine gate_callee (f:=45) rfl ?_);refine goesL_ (some 27) rfl rfl Try.func45 (by kernel_rfl) rfl #[.agg #[.int .i64 t819,.int .i64 t820,.slice Ao36 t821.length co36,.slice Ao37 t824.length co37,.slice Ao38 t827.length co38],.agg #[.slice A1_0 l1_0.length c1_0,.slice A1_1 l1_1.length c1_1],.int .i64 a2] rfl (by (try simp only [List.map_toArray,List.map_cons,List.map_nil]);first|done|rfl|(simp only [List.length_drop,List.length_take];rfl)) ?_;(with_reducible refine (water_ground_wet.calls t819 t820 _ _ t821 _ _ t824 _ _ t827 _ _ l1_0 _ _ l1_1 a2 true _ ?side1 ?side2 ?side3 ?side4 ?side5 ?side6 ?side7 ?side8 ?side9 ?side10 A7.out).mono ?_);(case side1 => refine (Kd.R_reads' (e:=3) (base:=w.heap.size) (ok:=fun k_ => some k_ ≠ (.slice Ao37 t824.length co37 : Value).ownBlock) (n:=t821.length) (c:=co36) ?_).2.2;exact (by (with_reducible repeat (first|apply Kd.R_alloc|apply Kd.R_drewN|apply Kd.R_drew));exact (Kd.R_mono (Kd.R_fars gb831 (Kd.R_types HO823.out BK831.out (by decide)) (fun _ hk => hk.2)) (fun _ h_ => h_.1))));(case side2 => exact (Kd.R_reads' HO823.out).2.1);(case side3 => refine (Kd.R_reads' (e:=3) (base:=w.heap.size) (ok:=fun k_ => some k_ ≠ (.slice Ao36 t821.length co36 : Value).ownBlock) (n:=t824.length) (c:=co37) ?_).2.2;exact (by (with_reducible repeat (first|apply Kd.R_alloc|apply Kd.R_drewN|apply Kd.R_drew));exact (Kd.R_mono (Kd.R_fars gb831 (Kd.R_types HO826.out BK831.out (by decide)) (fun _ hk => hk.2)) (fun _ h_ => h_.1))));(case side4 => exact (Kd.R_reads' HO826.out).2.1);(case side5 => refine (Kd.R_reads' (e:=4) (base:=w.heap.size) (ok:=fun k_ => True) (n:=t827.length) (c:=co38) ?_).2.2;exact (by (with_reducible repeat (first|apply Kd.R_alloc|apply Kd.R_drewN|apply Kd.R_drew));exact (Kd.R_mono (Kd.R_fars gb831 (Kd.R_types HO829.out BK831.out (by decide)) (fun _ hk => hk.2)) (fun _ h_ => h_.1))));(case side6 => exact (Kd.R_reads' HO829.out).2.1);(case side7 => exact Kd.C_below HR1_0.out (hb_));(case side8 => exact HC1_0.out);(case side9 => exact Kd.C_below HR1_1.out (hb_));(case side10 => exact HC1_1.out);rintro e w40 ⟨rfl,hb⟩;refine ⟨_,rfl,?_⟩;replace HO823:=Aside0.mk (Kd.R_below (by (with_reducible repeat (first|apply Kd.R_alloc|apply Kd.R_drewN|apply Kd.R_drew));exact (Kd.R_mono (Kd.R_fars gb831 (Kd.R_types HO823.out BK831.out (by decide)) (fun _ hk => hk.2)) (fun _ h_ => h_.1))) hb);replace HO826:=Aside0.mk (Kd.R_below (by (with_reducible repeat (first|apply Kd.R_alloc|apply Kd.R_drewN|apply Kd.R_drew));exact (Kd.R_mono (Kd.R_fars gb831 (Kd.R_types HO826.out BK831.out (by decide)) (fun _ hk => hk.2)) (fun _ h_ => h_.1))) hb);replace HO829:=Aside0.mk (Kd.R_below (by (with_reducible repeat (first|apply Kd.R_alloc|apply Kd.R_drewN|apply Kd.R_drew));exact (Kd.R_mono (Kd.R_fars gb831 (Kd.R_types HO829.out BK831.out (by decide)) (fun _ hk => hk.2)) (fun _ h_ => h_.1))) hb);replace BK817:=Aside0.mk (blk_below (g:=gb817) (o:=.cells #[.int .i64 a0_0,.int .i64 a0_1,.slice A0_2 l0_2.length c0_2] 24 (0,0)) (by (with_reducible repeat (first|refine blk_drewN ?_ _|refine blk_drew ?_|refine blk_alloc ?_ _));refine blk_far ?_ NB817_831.out _;(with_reducible repeat (first|refine blk_drewN ?_ _|refine blk_drew ?_|refine blk_alloc ?_ _));refine blk_far ?_ NB817_831.out _;(with_reducible repeat (first|refine blk_drewN ?_ _|refine blk_drew ?_|refine blk_alloc ?_ _));refine blk_far ?_ NB817_831.out _;(with_reducible repeat (first|refine blk_drewN ?_ _|refine blk_drew ?_|refine blk_alloc ?_ _));refine blk_far ?_ NB817_831.out _;(with_reducible repeat (first|refine blk_drewN ?_ _|refine blk_drew ?_|refine blk_alloc ?_ _));refine blk_far ?_ NB817_831.out _;(with_reducible repeat (first|refine blk_drewN ?_ _|refine blk_drew ?_|refine blk_alloc ?_ _));exact BK817.out) hb);replace BK818:=Aside0.mk (blk_below (g:=gb818) (o:=.cells #[.slice A1_0 l1_0.length c1_0,.slice A1_1 l1_1.length c1_1] 26 (0,0)) (by (with_reducible repeat (first|refine blk_drewN ?_ _|refine blk_drew ?_|refine blk_alloc ?_ _));refine blk_far ?_ NB818_831.out _;(with_reducible repeat (first|refine blk_drewN ?_ _|refine blk_drew ?_|refine blk_alloc ?_ _));refine blk_far ?_ NB818_831.out _;(with_reducible repeat (first|refine blk_drewN ?_ _|refine blk_drew ?_|refine blk_alloc ?_ _));refine blk_far ?_ NB818_831.out _;(with_reducible repeat (first|refine blk_drewN ?_ _|refine blk_drew ?_|refine blk_alloc ?_ _));refine blk_far ?_ NB818_831.out _;(with_reducible repeat (first|refine blk_drewN ?_ _|refine blk_drew ?_|refine blk_alloc ?_ _));refine blk_far ?_ NB818_831.out _;(with_reducible repeat (first|refine blk_drewN ?_ _|refine blk_drew ?_|refine blk_alloc ?_ _));exact BK818.out) hb);replace BK831:=Aside0.mk (blk_below (g:=gb831) (o:=.cells #[.int .i64 t819,.int .i64 t820,.slice Ao36 t821.length co36,.slice Ao37 t824.length co37,.slice Ao38 t827.length co38] 52 (0,0)) (by (with_reducible repeat (first|refine blk_drewN ?_ _|refine blk_drew ?_|refine blk_alloc ?_ _));exact blk_puts5 (blk_up BK831.out)) hb);replace HB:=Aside0.mk (below_step (hb_) hb)))
   go_ret2
   exact ⟨_,by first|rfl|(simp [errW_none,errW_some] <;> rfl)|(simp [*,errW_none,errW_some] <;> rfl),by first|exact Kd.R_nil _ _ _ _ _|exact Kd.N_nil _ _ _ _ _|exact Kd.V_nil _ _ _ _ _|exact Kd.Q_nil _ _ _ _ _|exact Kd.S_nil _ _ _ _ _,hb_⟩
  rw [if_neg c25] at H
  have c25b0 : decide (3 < a3) = false:=decide_eq_false c25
  clear c25
  have H':=Aside0.mk H
  clear H
  go_enter Try.func26,Try.ntmps26
  go_wp2_with (first|((with_reducible refine gate_dst (N:=4) rfl ?_);refine box_ev (N:=4) (cs:=#[.int .i64 a0_0,.int .i64 a0_1,.slice A0_2 l0_2.length c0_2]) (t:=24) ?_;intro gb817 hg w41 hbox hb;have BK817:=Aside0.mk (hbox);have GW817 : Aside0 (w.heap.size ≤ gb817):=gsz hg;have GE817:=GW817;replace HB:=Aside0.mk (below_step (hb_) hb);clear hb hbox hg)|((with_reducible refine gate_dst (N:=5) rfl ?_);refine box_ev (N:=5) (cs:=#[.slice A1_0 l1_0.length c1_0,.slice A1_1 l1_1.length c1_1]) (t:=26) ?_;intro gb818 hg w42 hbox hb;have BK818:=Aside0.mk (hbox);have GW818 : Aside0 (w.heap.size ≤ gb818):=gsz hg;have GE818:=GW818;have NB817_818:=nbl BK817 hg;have NB818_817:=nbr BK817 hg;replace BK817:=bkb BK817 hb;replace HB:=Aside0.mk (below_step (hb_) hb);clear hb hbox hg;have hnb43:=NB817_818.out;have hnc43:=NB818_817.out;obtain ⟨hcz44_0,hcz44_1,hcz44_2,hfz44_0,hfz44_1,hfz44_2⟩:=cells3 BK817.out;obtain ⟨hcz45_0,hcz45_1,hfz45_0,hfz45_1⟩:=cells2 BK818.out)|((with_reducible refine gate_callee (f:=40) rfl ?_);refine goesL_ (some 18) rfl rfl Try.func40 (by kernel_rfl) rfl #[.agg #[.int .i64 a0_0,.int .i64 a0_1,.slice A0_2 l0_2.length c0_2],.agg #[.slice A1_0 l1_0.length c1_0,.slice A1_1 l1_1.length c1_1],.int .i64 a2] rfl (by (try simp only [List.map_toArray,List.map_cons,List.map_nil]);first|done|rfl|(simp only [List.length_drop,List.length_take];rfl)) ?_;(with_reducible refine (water_at.calls k a0_0 a0_1 _ _ l0_2 _ _ l1_0 _ _ l1_1 a2 t819 t820 t821 t824 t827 t830 _ ?side1 ?side2 ?side3 ?side4 ?side5 ?side6 A5.out).mono ?_);(case side1 => exact Kd.C_up (Kd.C_below HR0_2.out HB.out));(case side2 => exact HC0_2.out);(case side3 => exact Kd.C_up (Kd.C_below HR1_0.out HB.out));(case side4 => exact HC1_0.out);(case side5 => exact Kd.C_up (Kd.C_below HR1_1.out HB.out));(case side6 => exact HC1_1.out);rintro e w46 ⟨v822,v825,v828,rfl,ho0,ho1,ho2,hb⟩;refine ⟨_,rfl,?_⟩;have HO823:=rlo ho0;have HO826:=rlo ho1;have HO829:=rlo ho2;replace BK817:=bkb BK817 hb;replace BK818:=bkb BK818 hb;replace HB:=Aside0.mk (below_step (hb_) hb))|((with_reducible refine gate_dst (N:=10) rfl ?_);refine box_ev (N:=10) (cs:=#[.int .i64 0,.int .i64 0,.slice none 0 0,.slice none 0 0,.slice none 0 0]) (t:=52) ?_;intro gb831 hg w47 hbox hb;have BK831:=Aside0.mk (hbox);have GW831 : Aside0 (w.heap.size ≤ gb831):=gsz hg;have GE831:=GW831;have NB817_831:=nbl BK817 hg;have NB831_817:=nbr BK817 hg;have NB818_831:=nbl BK818 hg;have NB831_818:=nbr BK818 hg;replace HO823:=rbw HO823 hb;replace HO826:=rbw HO826 hb;replace HO829:=rbw HO829 hb;replace BK817:=bkb BK817 hb;replace BK818:=bkb BK818 hb;replace HB:=Aside0.mk (below_step (hb_) hb);clear hb hbox hg;have hnb48:=NB831_817.out;have hnc48:=NB817_831.out;have hnb49:=NB831_818.out;have hnc49:=NB818_831.out;obtain ⟨hcz50_0,hcz50_1,hcz50_2,hcz50_3,hcz50_4,hfz50_0,hfz50_1,hfz50_2,hfz50_3,hfz50_4⟩:=cells5 BK831.out;obtain ⟨Ao51,co51,eo51⟩:=Kd.R_slice HO823.out;subst eo51;obtain ⟨Ao52,co52,eo52⟩:=Kd.R_slice HO826.out;subst eo52;obtain ⟨Ao53,co53,eo53⟩:=Kd.R_slice HO829.out;subst eo53;obtain ⟨hcz54_0,hcz54_1,hfz54_0,hfz54_1⟩:=cells2 BK818.out)|((with_reducible refine gate_callee (f:=45) rfl ?_);refine goesL_ (some 27) rfl rfl Try.func45 (by kernel_rfl) rfl #[.agg #[.int .i64 t819,.int .i64 t820,.slice Ao51 t821.length co51,.slice Ao52 t824.length co52,.slice Ao53 t827.length co53],.agg #[.slice A1_0 l1_0.length c1_0,.slice A1_1 l1_1.length c1_1],.int .i64 a2] rfl (by (try simp only [List.map_toArray,List.map_cons,List.map_nil]);first|done|rfl|(simp only [List.length_drop,List.length_take];rfl)) ?_;(with_reducible refine (water_ground_wet.calls t819 t820 _ _ t821 _ _ t824 _ _ t827 _ _ l1_0 _ _ l1_1 a2 true _ ?side1 ?side2 ?side3 ?side4 ?side5 ?side6 ?side7 ?side8 ?side9 ?side10 A7.out).mono ?_);(case side1 => refine (Kd.R_reads' (e:=3) (base:=w.heap.size) (ok:=fun k_ => some k_ ≠ (.slice Ao52 t824.length co52 : Value).ownBlock) (n:=t821.length) (c:=co51) ?_).2.2;exact (by (with_reducible repeat (first|apply Kd.R_alloc|apply Kd.R_drewN|apply Kd.R_drew));exact (Kd.R_mono (Kd.R_fars gb831 (Kd.R_types HO823.out BK831.out (by decide)) (fun _ hk => hk.2)) (fun _ h_ => h_.1))));(case side2 => exact (Kd.R_reads' HO823.out).2.1);(case side3 => refine (Kd.R_reads' (e:=3) (base:=w.heap.size) (ok:=fun k_ => some k_ ≠ (.slice Ao51 t821.length co51 : Value).ownBlock) (n:=t824.length) (c:=co52) ?_).2.2;exact (by (with_reducible repeat (first|apply Kd.R_alloc|apply Kd.R_drewN|apply Kd.R_drew));exact (Kd.R_mono (Kd.R_fars gb831 (Kd.R_types HO826.out BK831.out (by decide)) (fun _ hk => hk.2)) (fun _ h_ => h_.1))));(case side4 => exact (Kd.R_reads' HO826.out).2.1);(case side5 => refine (Kd.R_reads' (e:=4) (base:=w.heap.size) (ok:=fun k_ => True) (n:=t827.length) (c:=co53) ?_).2.2;exact (by (with_reducible repeat (first|apply Kd.R_alloc|apply Kd.R_drewN|apply Kd.R_drew));exact (Kd.R_mono (Kd.R_fars gb831 (Kd.R_types HO829.out BK831.out (by decide)) (fun _ hk => hk.2)) (fun _ h_ => h_.1))));(case side6 => exact (Kd.R_reads' HO829.out).2.1);(case side7 => exact Kd.C_below HR1_0.out (hb_));(case side8 => exact HC1_0.out);(case side9 => exact Kd.C_below HR1_1.out (hb_));(case side10 => exact HC1_1.out);rintro e w55 ⟨rfl,hb⟩;refine ⟨_,rfl,?_⟩;replace HO823:=Aside0.mk (Kd.R_below (by (with_reducible repeat (first|apply Kd.R_alloc|apply Kd.R_drewN|apply Kd.R_drew));exact (Kd.R_mono (Kd.R_fars gb831 (Kd.R_types HO823.out BK831.out (by decide)) (fun _ hk => hk.2)) (fun _ h_ => h_.1))) hb);replace HO826:=Aside0.mk (Kd.R_below (by (with_reducible repeat (first|apply Kd.R_alloc|apply Kd.R_drewN|apply Kd.R_drew));exact (Kd.R_mono (Kd.R_fars gb831 (Kd.R_types HO826.out BK831.out (by decide)) (fun _ hk => hk.2)) (fun _ h_ => h_.1))) hb);replace HO829:=Aside0.mk (Kd.R_below (by (with_reducible repeat (first|apply Kd.R_alloc|apply Kd.R_drewN|apply Kd.R_drew));exact (Kd.R_mono (Kd.R_fars gb831 (Kd.R_types HO829.out BK831.out (by decide)) (fun _ hk => hk.2)) (fun _ h_ => h_.1))) hb);replace BK817:=Aside0.mk (blk_below (g:=gb817) (o:=.cells #[.int .i64 a0_0,.int .i64 a0_1,.slice A0_2 l0_2.length c0_2] 24 (0,0)) (by (with_reducible repeat (first|refine blk_drewN ?_ _|refine blk_drew ?_|refine blk_alloc ?_ _));refine blk_far ?_ NB817_831.out _;(with_reducible repeat (first|refine blk_drewN ?_ _|refine blk_drew ?_|refine blk_alloc ?_ _));refine blk_far ?_ NB817_831.out _;(with_reducible repeat (first|refine blk_drewN ?_ _|refine blk_drew ?_|refine blk_alloc ?_ _));refine blk_far ?_ NB817_831.out _;(with_reducible repeat (first|refine blk_drewN ?_ _|refine blk_drew ?_|refine blk_alloc ?_ _));refine blk_far ?_ NB817_831.out _;(with_reducible repeat (first|refine blk_drewN ?_ _|refine blk_drew ?_|refine blk_alloc ?_ _));refine blk_far ?_ NB817_831.out _;(with_reducible repeat (first|refine blk_drewN ?_ _|refine blk_drew ?_|refine blk_alloc ?_ _));exact BK817.out) hb);replace BK818:=Aside0.mk (blk_below (g:=gb818) (o:=.cells #[.slice A1_0 l1_0.length c1_0,.slice A1_1 l1_1.length c1_1] 26 (0,0)) (by (with_reducible repeat (first|refine blk_drewN ?_ _|refine blk_drew ?_|refine blk_alloc ?_ _));refine blk_far ?_ NB818_831.out _;(with_reducible repeat (first|refine blk_drewN ?_ _|refine blk_drew ?_|refine blk_alloc ?_ _));refine blk_far ?_ NB818_831.out _;(with_reducible repeat (first|refine blk_drewN ?_ _|refine blk_drew ?_|refine blk_alloc ?_ _));refine blk_far ?_ NB818_831.out _;(with_reducible repeat (first|refine blk_drewN ?_ _|refine blk_drew ?_|refine blk_alloc ?_ _));refine blk_far ?_ NB818_831.out _;(with_reducible repeat (first|refine blk_drewN ?_ _|refine blk_drew ?_|refine blk_alloc ?_ _));refine blk_far ?_ NB818_831.out _;(with_reducible repeat (first|refine blk_drewN ?_ _|refine blk_drew ?_|refine blk_alloc ?_ _));exact BK818.out) hb);replace BK831:=Aside0.mk (blk_below (g:=gb831) (o:=.cells #[.int .i64 t819,.int .i64 t820,.slice Ao51 t821.length co51,.slice Ao52 t824.length co52,.slice Ao53 t827.length co53] 52 (0,0)) (by (with_reducible repeat (first|refine blk_drewN ?_ _|refine blk_drew ?_|refine blk_alloc ?_ _));exact blk_puts5 (blk_up BK831.out)) hb);replace HB:=Aside0.mk (below_step (hb_) hb)))
  go_loopg [12,35] k (fun kq v12 v35 w' => ∃ (x12_1 : List Int) (x35_1 : Int),v35 = .int .i64 x35_1 ∧ Aside0 (water_Next.l0 kq a2 a3 x12_1 x35_1 l1_0 l1_1 t819 t820 t821 t824 t827 = some (r1,r2)) ∧ Aside0 (kq ≤ k) ∧ Aside0 (Kd.R (Kd.int .i64) 3 w' w.heap.size (fun k_ => some k_ ≠ ((.slice Ao51 t821.length co51) : Value).ownBlock ∧ some k_ ≠ ((.slice Ao52 t824.length co52) : Value).ownBlock) v12 x12_1) ∧ Aside0 (Kd.R (Kd.int .i64) 3 w' w.heap.size (fun k_ => some k_ ≠ (v12 : Value).ownBlock ∧ some k_ ≠ ((.slice Ao52 t824.length co52) : Value).ownBlock) (.slice Ao51 t821.length co51) t821) ∧ Aside0 (Kd.R (Kd.int .i64) 3 w' w.heap.size (fun k_ => some k_ ≠ (v12 : Value).ownBlock ∧ some k_ ≠ ((.slice Ao51 t821.length co51) : Value).ownBlock) (.slice Ao52 t824.length co52) t824) ∧ Aside0 (Kd.R Kd.bool 4 w' w.heap.size (fun _ => True) (.slice Ao53 t827.length co53) t827) ∧ Aside0 (w'.heap[gb817]? = some (.cells #[.int .i64 a0_0,.int .i64 a0_1,(.slice A0_2 l0_2.length c0_2)] 24 (0,0))) ∧ Aside0 (w'.heap[gb818]? = some (.cells #[(.slice A1_0 l1_0.length c1_0),(.slice A1_1 l1_1.length c1_1)] 26 (0,0))) ∧ Aside0 (w'.heap[gb831]? = some (.cells #[.int .i64 t819,.int .i64 t820,(.slice Ao51 t821.length co51),(.slice Ao52 t824.length co52),(.slice Ao53 t827.length co53)] 52 (0,0))) ∧ Aside0 (Below w.heap.size w w') ∧ Aside0 (x12_1 = [] → v12 = .slice none 0 0))
  case atStart => exact ⟨(([] : List Int)),(0),(by first|rfl|(simp;done)|(simp [*];done)),H',⟨Nat.le_refl _⟩,⟨by first|exact Kd.R_nil _ _ _ _ _|exact Kd.N_nil _ _ _ _ _|exact Kd.V_nil _ _ _ _ _|exact Kd.Q_nil _ _ _ _ _|exact Kd.S_nil _ _ _ _ _⟩,⟨by (with_reducible repeat (first|apply Kd.R_alloc|apply Kd.R_drewN|apply Kd.R_drew));exact Kd.R_mono HO823.out (fun _ hk => ⟨(by simp [Value.ownBlock]),hk⟩)⟩,⟨by (with_reducible repeat (first|apply Kd.R_alloc|apply Kd.R_drewN|apply Kd.R_drew));exact Kd.R_mono HO826.out (fun _ hk => ⟨(by simp [Value.ownBlock]),hk⟩)⟩,⟨Kd.R_up HO829.out⟩,⟨blk_up BK817.out⟩,⟨blk_up BK818.out⟩,⟨blk_up BK831.out⟩,⟨hb_⟩,⟨fun _ => rfl⟩⟩
  case round =>
   clear H'
   obtain ⟨x12_1,x35_1,rfl,HA,HK1,HO_12,HO_832002,HO_832003,HO_832004,BK817,BK818,BK831,HB,NF_⟩:=hrel
   cases gk with
   | zero => exact absurd HA.out (by simp [water_Next.l0])
   | succ k1 =>
    have H:=HA.out
    clear HA
    simp only [water_Next.l0] at H
    by_cases c56 : x35_1 < 4
    ·rw [if_pos c56] at H
     have c56b0 : decide (x35_1 < 4) = true:=decide_eq_true c56
     clear c56
     by_cases c57 : x35_1 = a3
     ·rw [if_pos c57] at H
      have c57b0 : (x35_1 == a3) = true:=beq_iff_eq.mpr c57
      have c57b1 : (x35_1 != a3) = false:=bne_eq_false_iff_eq.mpr c57
      clear c57
      have H':=Aside0.mk H
      clear H
      go_wp2
      go_roundg k1
      case measure => have:=HK1.out;omega
      case rel => exact ⟨(x12_1),(wrap64 (x35_1 + 1)),(by first|rfl|(simp;done)|(simp [*];done)),H',⟨by have:=HK1.out;omega⟩,⟨Kd.R_up HO_12.out⟩,⟨Kd.R_up HO_832002.out⟩,⟨Kd.R_up HO_832003.out⟩,⟨Kd.R_up HO_832004.out⟩,⟨blk_up BK817.out⟩,⟨blk_up BK818.out⟩,⟨blk_up BK831.out⟩,⟨hb_⟩,⟨NF_.out⟩⟩
     rw [if_neg c57] at H
     have c57b0 : (x35_1 == a3) = false:=beq_eq_false_iff_ne.mpr c57
     have c57b1 : (x35_1 != a3) = true:=bne_iff_ne.mpr c57
     replace H:=Option.bind_eq_some_iff.mp H
     obtain ⟨t833,A580,H⟩:=H
     replace H : (if t833 = true then (if x12_1.length < 17592186044416 then (water_Next.l0 k1 a2 a3 (x12_1 ++ [x35_1]) (wrap64 (x35_1 + 1)) l1_0 l1_1 t819 t820 t821 t824 t827) else (none)) else (water_Next.l0 k1 a2 a3 x12_1 (wrap64 (x35_1 + 1)) l1_0 l1_1 t819 t820 t821 t824 t827)) = some (r1,r2):=H
     have A58:=Aside0.mk A580
     clear A580
     by_cases c59 : t833 = true
     ·subst c59
      have H1 : (if x12_1.length < 17592186044416 then (water_Next.l0 k1 a2 a3 (x12_1 ++ [x35_1]) (wrap64 (x35_1 + 1)) l1_0 l1_1 t819 t820 t821 t824 t827) else (none)) = some (r1,r2):=by rw [if_pos rfl] at H;exact H
      clear H
      have H:=H1
      clear H1
      replace H:=ifp_ H;obtain ⟨c60,H⟩:=H
      have LMc60:=Aside0.mk c60
      clear c60
      obtain ⟨y834,hy834⟩ : ∃ y_ : List Int,y_ = (x12_1 ++ [x35_1]):=⟨_,rfl⟩
      replace H : (water_Next.l0 k1 a2 a3 y834 (wrap64 (x35_1 + 1)) l1_0 l1_1 t819 t820 t821 t824 t827) = some (r1,r2):=by first|(rw [hy834];with_reducible exact H)|(have H2_:=(Option.bind_some _ _).symm.trans H;rw [hy834];with_reducible exact H2_)|(have H2_:=(Option.bind_some _ _).symm.trans H;with_reducible exact H2_)|with_reducible exact H|(rw [hy834];exact H)|exact H
      have Ny834:=Aside0.mk hy834
      clear hy834
      have H':=Aside0.mk H
      clear H
      have hnb61:=NB831_817.out
      have hnc61:=NB817_831.out
      have hnb62:=NB831_818.out
      have hnc62:=NB818_831.out
      obtain ⟨hcz63_0,hcz63_1,hcz63_2,hcz63_3,hcz63_4,hfz63_0,hfz63_1,hfz63_2,hfz63_3,hfz63_4⟩:=cells5 BK831.out
      have hnb64:=NB818_817.out
      have hnc64:=NB817_818.out
      obtain ⟨hcz65_0,hcz65_1,hfz65_0,hfz65_1⟩:=cells2 BK818.out
      go_wp2_with (first|(go_at_call 41;(with_reducible refine (water_ground_joined.calls k1 t819 t820 _ _ t821 _ _ t824 _ _ t827 _ _ l1_0 _ _ l1_1 a2 x35_1 true _ ?side1 ?side2 ?side3 ?side4 ?side5 ?side6 ?side7 ?side8 ?side9 ?side10 A58.out).mono ?_);(case side1 => exact Kd.C_up (Kd.R_reads' HO_832002.out).2.2);(case side2 => exact (Kd.R_reads' HO_832002.out).2.1);(case side3 => exact Kd.C_up (Kd.R_reads' HO_832003.out).2.2);(case side4 => exact (Kd.R_reads' HO_832003.out).2.1);(case side5 => exact Kd.C_up (Kd.R_reads' HO_832004.out).2.2);(case side6 => exact (Kd.R_reads' HO_832004.out).2.1);(case side7 => exact Kd.C_up (Kd.C_below HR1_0.out HB.out));(case side8 => exact HC1_0.out);(case side9 => exact Kd.C_up (Kd.C_below HR1_1.out HB.out));(case side10 => exact HC1_1.out);rintro e w66 ⟨rfl,hb⟩;replace HO_12:=rbw HO_12 hb;replace HO_832002:=rbw HO_832002 hb;replace HO_832003:=rbw HO_832003 hb;replace HO_832004:=rbw HO_832004 hb;replace BK817:=bkb BK817 hb;replace BK818:=bkb BK818 hb;replace BK831:=bkb BK831 hb;replace HB:=Aside0.mk (below_step (hb_) hb))|((with_reducible refine gate_builtin (b:=.append) (xs:=#[.tmp 48,.tmp 50]) rfl ?_);at_builtin;refine Kd.R_append (Kd.int .i64) (w0:=w) w.heap.size rfl (.tmp 48) (.tmp 50) 22 3 (.int .i64 0) 8 rfl Try.underlying22 info3 rfl (by decide) (by omega) u12 x12_1 x35_1 [.int .i64 x35_1] (fun k_ => some k_ ≠ (.slice Ao51 t821.length co51 : Value).ownBlock ∧ some k_ ≠ (.slice Ao52 t824.length co52 : Value).ownBlock) (fun _ => False) rfl rfl ?aP (fun _ hk => hk.elim) ?aF ?aO ?aB ?aS ?aL ?_;(case aP => exact rfl);(case aB => exact (hb_));(case aF => exact (fun k_ hk => ⟨Kd.fresh' (Kd.R_lt (Kd.R_up HO_832002.out)) k_ hk,Kd.fresh' (Kd.R_lt (Kd.R_up HO_832003.out)) k_ hk⟩));(case aO => exact (Kd.R_up HO_12.out));(case aS => exact (below_size (hb_)));(case aL => have:=LMc60.out;omega);intro v835 w67 ho hb hg hat;rw [← Ny834.out] at ho;have HO836:=Aside0.mk (ho);replace HO_832002:=Aside0.mk (Kd.R_after (ok:=(fun k_ => some k_ ≠ (.slice Ao52 t824.length co52 : Value).ownBlock)) (by (with_reducible repeat (first|apply Kd.R_alloc|apply Kd.R_drewN|apply Kd.R_drew));exact Kd.R_mono HO_832002.out (fun _ hk => ⟨hk.2,hk.1⟩)) hg hat);replace HO_832003:=Aside0.mk (Kd.R_after (ok:=(fun k_ => some k_ ≠ (.slice Ao51 t821.length co51 : Value).ownBlock)) (by (with_reducible repeat (first|apply Kd.R_alloc|apply Kd.R_drewN|apply Kd.R_drew));exact Kd.R_mono HO_832003.out (fun _ hk => ⟨hk.2,hk.1⟩)) hg hat);replace HO_832004:=Aside0.mk (Kd.R_over' (Kd.R_up HO_832004.out) (Kd.R_typed (Kd.R_up HO_12.out)) (by decide) hg);replace BK817:=Aside0.mk (blk_grown (blk_up BK817.out) hg (Kd.R_ne HO_12.out BK817.out (by decide)));replace BK818:=Aside0.mk (blk_grown (blk_up BK818.out) hg (Kd.R_ne HO_12.out BK818.out (by decide)));replace BK831:=Aside0.mk (blk_grown (blk_up BK831.out) hg (Kd.R_ne HO_12.out BK831.out (by decide)));replace HB:=Aside0.mk (hb);clear HO_12;clear ho hb hg hat))
      go_roundg k1
      case measure => have:=HK1.out;omega
      case rel => exact ⟨(y834),(wrap64 (x35_1 + 1)),(by first|rfl|(simp;done)|(simp [*];done)),H',⟨by have:=HK1.out;omega⟩,⟨Kd.R_up HO836.out⟩,⟨by (with_reducible repeat (first|apply Kd.R_alloc|apply Kd.R_drewN|apply Kd.R_drew));exact Kd.R_mono HO_832002.out (fun _ hk => ⟨hk.2,hk.1⟩)⟩,⟨by (with_reducible repeat (first|apply Kd.R_alloc|apply Kd.R_drewN|apply Kd.R_drew));exact Kd.R_mono HO_832003.out (fun _ hk => ⟨hk.2,hk.1⟩)⟩,⟨Kd.R_up HO_832004.out⟩,⟨blk_up BK817.out⟩,⟨blk_up BK818.out⟩,⟨blk_up BK831.out⟩,⟨hb_⟩,⟨by intro h_;rw [Ny834.out] at h_;exact absurd h_ (by simp)⟩⟩
     ·replace c59:=Bool.eq_false_iff.mpr c59
      subst c59
      have H1 : (water_Next.l0 k1 a2 a3 x12_1 (wrap64 (x35_1 + 1)) l1_0 l1_1 t819 t820 t821 t824 t827) = some (r1,r2):=by rw [if_neg (show ¬ (false = true) by decide)] at H;exact H
      clear H
      have H:=H1
      clear H1
      have H':=Aside0.mk H
      clear H
      have hnb68:=NB831_817.out
      have hnc68:=NB817_831.out
      have hnb69:=NB831_818.out
      have hnc69:=NB818_831.out
      obtain ⟨hcz70_0,hcz70_1,hcz70_2,hcz70_3,hcz70_4,hfz70_0,hfz70_1,hfz70_2,hfz70_3,hfz70_4⟩:=cells5 BK831.out
      have hnb71:=NB818_817.out
      have hnc71:=NB817_818.out
      obtain ⟨hcz72_0,hcz72_1,hfz72_0,hfz72_1⟩:=cells2 BK818.out
      go_wp2_with (first|(go_at_call 41;(with_reducible refine (water_ground_joined.calls k1 t819 t820 _ _ t821 _ _ t824 _ _ t827 _ _ l1_0 _ _ l1_1 a2 x35_1 false _ ?side1 ?side2 ?side3 ?side4 ?side5 ?side6 ?side7 ?side8 ?side9 ?side10 A58.out).mono ?_);(case side1 => exact Kd.C_up (Kd.R_reads' HO_832002.out).2.2);(case side2 => exact (Kd.R_reads' HO_832002.out).2.1);(case side3 => exact Kd.C_up (Kd.R_reads' HO_832003.out).2.2);(case side4 => exact (Kd.R_reads' HO_832003.out).2.1);(case side5 => exact Kd.C_up (Kd.R_reads' HO_832004.out).2.2);(case side6 => exact (Kd.R_reads' HO_832004.out).2.1);(case side7 => exact Kd.C_up (Kd.C_below HR1_0.out HB.out));(case side8 => exact HC1_0.out);(case side9 => exact Kd.C_up (Kd.C_below HR1_1.out HB.out));(case side10 => exact HC1_1.out);rintro e w73 ⟨rfl,hb⟩;replace HO_12:=rbw HO_12 hb;replace HO_832002:=rbw HO_832002 hb;replace HO_832003:=rbw HO_832003 hb;replace HO_832004:=rbw HO_832004 hb;replace BK817:=bkb BK817 hb;replace BK818:=bkb BK818 hb;replace BK831:=bkb BK831 hb;replace HB:=Aside0.mk (below_step (hb_) hb)))
      go_roundg k1
      case measure => have:=HK1.out;omega
      case rel => exact ⟨(x12_1),(wrap64 (x35_1 + 1)),(by first|rfl|(simp;done)|(simp [*];done)),H',⟨by have:=HK1.out;omega⟩,⟨Kd.R_up HO_12.out⟩,⟨Kd.R_up HO_832002.out⟩,⟨Kd.R_up HO_832003.out⟩,⟨Kd.R_up HO_832004.out⟩,⟨blk_up BK817.out⟩,⟨blk_up BK818.out⟩,⟨blk_up BK831.out⟩,⟨hb_⟩,⟨NF_.out⟩⟩
    rw [if_neg c56] at H
    have c56b0 : decide (x35_1 < 4) = false:=decide_eq_false c56
    clear c56
    by_cases c74 : (x12_1.length : Int) = 0
    rotate_left
    ·rw [if_neg c74] at H
     have c74b0 : ((x12_1.length : Int) == 0) = false:=beq_eq_false_iff_ne.mpr c74
     obtain ⟨go9_,co9_,eo9_,gb9_,gl9_,cl9_,HG9_⟩:=Kd.R_form HO_12.out (by have:=c74;omega);subst eo9_;clear gb9_ gl9_ cl9_ HG9_;have hnl_ : ∀ W_ : World,(Go.binOp .eql 22 (.slice (some ⟨go9_,0,none⟩) x12_1.length co9_) (.slice none 0 0)).run Try.prog W_ = .ok (.bool false) W_:=fun W_ => by simp only [Go.binOp];simp [run_equal_slice_nil W_ 22 3 _ _ _ Try.underlying22]
     have c74b1 : ((x12_1.length : Int) != 0) = true:=bne_iff_ne.mpr c74
     have c74b2 : ¬ (x12_1 = []):=fun h_ => c74 (by rw [h_];rfl)
     simp only [Option.some.injEq,Prod.mk.injEq] at H
     obtain ⟨rfl,rfl⟩:=H
     go_wp2
     go_ret2
     exact ⟨_,by first|rfl|(simp [errW_none,errW_some] <;> rfl)|(simp [*,errW_none,errW_some] <;> rfl),by (with_reducible repeat (first|apply Kd.R_alloc|apply Kd.R_drewN|apply Kd.R_drew));exact Kd.R_mono HO_12.out (fun _ hk => trivial),hb_⟩
    rw [if_pos c74] at H
    have c74b0 : ((x12_1.length : Int) == 0) = true:=beq_iff_eq.mpr c74
    have hn_:=NF_.out (List.length_eq_zero_iff.1 (by have:=c74;omega));subst hn_;have hnl_ : ∀ W_ : World,(Go.binOp .eql 22 (.slice none 0 0) (.slice none 0 0)).run Try.prog W_ = .ok (.bool true) W_:=fun W_ => by simp only [Go.binOp];simp [run_equal_slice_nil W_ 22 3 _ _ _ Try.underlying22]
    have c74b1 : ((x12_1.length : Int) != 0) = false:=bne_eq_false_iff_eq.mpr c74
    clear c74
    by_cases c75 : a3 ≥ 0
    rotate_left
    ·rw [if_neg c75] at H
     have c75b0 : decide (0 ≤ a3) = false:=decide_eq_false c75
     clear c75
     simp only [Option.some.injEq,Prod.mk.injEq] at H
     obtain ⟨rfl,rfl⟩:=H
     go_wp2
     go_ret2
     exact ⟨_,by first|rfl|(simp [errW_none,errW_some] <;> rfl)|(simp [*,errW_none,errW_some] <;> rfl),by (with_reducible repeat (first|apply Kd.R_alloc|apply Kd.R_drewN|apply Kd.R_drew));exact Kd.R_mono HO_12.out (fun _ hk => trivial),hb_⟩
    rw [if_pos c75] at H
    have c75b0 : decide (0 ≤ a3) = true:=decide_eq_true c75
    clear c75
    replace H:=Option.bind_eq_some_iff.mp H
    obtain ⟨t837,A760,H⟩:=H
    replace H : (if t837 = true then (some ((([a3] : List Int)),0)) else (some (x12_1,0))) = some (r1,r2):=H
    have A76:=Aside0.mk A760
    clear A760
    by_cases c77 : t837 = true
    ·subst c77
     have H1 : (some ((([a3] : List Int)),0)) = some (r1,r2):=by rw [if_pos rfl] at H;exact H
     clear H
     have H:=H1
     clear H1
     obtain ⟨y838,hy838⟩ : ∃ y_ : List Int,y_ = (([a3] : List Int)):=⟨_,rfl⟩
     replace H : (some (y838,0)) = some (r1,r2):=by first|(rw [hy838];with_reducible exact H)|(have H2_:=(Option.bind_some _ _).symm.trans H;rw [hy838];with_reducible exact H2_)|(have H2_:=(Option.bind_some _ _).symm.trans H;with_reducible exact H2_)|with_reducible exact H|(rw [hy838];exact H)|exact H
     have Ny838:=Aside0.mk hy838
     clear hy838
     simp only [Option.some.injEq,Prod.mk.injEq] at H
     obtain ⟨rfl,rfl⟩:=H
     have hnb78:=NB831_817.out
     have hnc78:=NB817_831.out
     have hnb79:=NB831_818.out
     have hnc79:=NB818_831.out
     obtain ⟨hcz80_0,hcz80_1,hcz80_2,hcz80_3,hcz80_4,hfz80_0,hfz80_1,hfz80_2,hfz80_3,hfz80_4⟩:=cells5 BK831.out
     have hnb81:=NB818_817.out
     have hnc81:=NB817_818.out
     obtain ⟨hcz82_0,hcz82_1,hfz82_0,hfz82_1⟩:=cells2 BK818.out
     go_wp2_with (first|(go_at_call 41;(with_reducible refine (water_ground_joined.calls k1 t819 t820 _ _ t821 _ _ t824 _ _ t827 _ _ l1_0 _ _ l1_1 a2 a3 true _ ?side1 ?side2 ?side3 ?side4 ?side5 ?side6 ?side7 ?side8 ?side9 ?side10 A76.out).mono ?_);(case side1 => exact Kd.C_up (Kd.R_reads' HO_832002.out).2.2);(case side2 => exact (Kd.R_reads' HO_832002.out).2.1);(case side3 => exact Kd.C_up (Kd.R_reads' HO_832003.out).2.2);(case side4 => exact (Kd.R_reads' HO_832003.out).2.1);(case side5 => exact Kd.C_up (Kd.R_reads' HO_832004.out).2.2);(case side6 => exact (Kd.R_reads' HO_832004.out).2.1);(case side7 => exact Kd.C_up (Kd.C_below HR1_0.out HB.out));(case side8 => exact HC1_0.out);(case side9 => exact Kd.C_up (Kd.C_below HR1_1.out HB.out));(case side10 => exact HC1_1.out);rintro e w83 ⟨rfl,hb⟩;replace HO_12:=rbw HO_12 hb;replace HO_832002:=rbw HO_832002 hb;replace HO_832003:=rbw HO_832003 hb;replace HO_832004:=rbw HO_832004 hb;replace BK817:=bkb BK817 hb;replace BK818:=bkb BK818 hb;replace BK831:=bkb BK831 hb;replace HB:=Aside0.mk (below_step (hb_) hb))|((with_reducible refine gate_dst (N:=67) rfl ?_);refine Kd.R_lit (Kd.int .i64) _ 3 ?hg (N:=67) ?hd (xs:=([a3] : List Int)) (inner:=[.int .i64 a3]) (ok:=fun _ => True) (okp:=fun _ => True) ?hr ?hp (fun _ hk => hk) trivial (Below.refl _ _) (Nat.le_refl _) (by simp) ?_;(case hd => rfl);(case hg => rfl);(case hr => first|(go_simp;done)|(go_simp;rfl));(case hp => exact (Reps.one (show Kd.M (Kd.int .i64) _ _ _ a3 [.int .i64 a3] from rfl) (Reps.none _ _)));intro v839 w84 ho85 hb hg_ hnew_;clear hg_ hnew_;(first|rw [← Ny838.out] at ho85|(simp only [Int.reduceToNat] at ho85;rw [← Ny838.out] at ho85));have HO840:=Aside0.mk (Kd.R_lower (Kd.R_new' (Kd.R_new' (Kd.R_new' ho85 (Kd.R_lt (Kd.R_up HO_12.out))) (Kd.R_lt (Kd.R_up HO_832002.out))) (Kd.R_lt (Kd.R_up HO_832003.out))) (below_size (hb_)));replace HO_12:=Aside0.mk (Kd.R_elder' (Kd.R_up HO_12.out) (Kd.R_base ho85) hb);replace HO_832002:=Aside0.mk (Kd.R_elder' (Kd.R_up HO_832002.out) (Kd.R_base ho85) hb);replace HO_832003:=Aside0.mk (Kd.R_elder' (Kd.R_up HO_832003.out) (Kd.R_base ho85) hb);replace HO_832004:=rbw HO_832004 hb;replace BK817:=bkb BK817 hb;replace BK818:=bkb BK818 hb;replace BK831:=bkb BK831 hb;replace HB:=Aside0.mk (below_step (hb_) hb);clear hb ho85))
     go_ret2
     exact ⟨_,by first|rfl|(simp [errW_none,errW_some] <;> rfl)|(simp [*,errW_none,errW_some] <;> rfl),by (with_reducible repeat (first|apply Kd.R_alloc|apply Kd.R_drewN|apply Kd.R_drew));exact Kd.R_mono HO840.out (fun _ hk => trivial),hb_⟩
    ·replace c77:=Bool.eq_false_iff.mpr c77
     subst c77
     have H1 : (some (x12_1,0)) = some (r1,r2):=by rw [if_neg (show ¬ (false = true) by decide)] at H;exact H
     clear H
     have H:=H1
     clear H1
     simp only [Option.some.injEq,Prod.mk.injEq] at H
     obtain ⟨rfl,rfl⟩:=H
     have hnb86:=NB831_817.out
     have hnc86:=NB817_831.out
     have hnb87:=NB831_818.out
     have hnc87:=NB818_831.out
     obtain ⟨hcz88_0,hcz88_1,hcz88_2,hcz88_3,hcz88_4,hfz88_0,hfz88_1,hfz88_2,hfz88_3,hfz88_4⟩:=cells5 BK831.out
     have hnb89:=NB818_817.out
     have hnc89:=NB817_818.out
     obtain ⟨hcz90_0,hcz90_1,hfz90_0,hfz90_1⟩:=cells2 BK818.out
     go_wp2_with (first|(go_at_call 41;(with_reducible refine (water_ground_joined.calls k1 t819 t820 _ _ t821 _ _ t824 _ _ t827 _ _ l1_0 _ _ l1_1 a2 a3 false _ ?side1 ?side2 ?side3 ?side4 ?side5 ?side6 ?side7 ?side8 ?side9 ?side10 A76.out).mono ?_);(case side1 => exact Kd.C_up (Kd.R_reads' HO_832002.out).2.2);(case side2 => exact (Kd.R_reads' HO_832002.out).2.1);(case side3 => exact Kd.C_up (Kd.R_reads' HO_832003.out).2.2);(case side4 => exact (Kd.R_reads' HO_832003.out).2.1);(case side5 => exact Kd.C_up (Kd.R_reads' HO_832004.out).2.2);(case side6 => exact (Kd.R_reads' HO_832004.out).2.1);(case side7 => exact Kd.C_up (Kd.C_below HR1_0.out HB.out));(case side8 => exact HC1_0.out);(case side9 => exact Kd.C_up (Kd.C_below HR1_1.out HB.out));(case side10 => exact HC1_1.out);rintro e w91 ⟨rfl,hb⟩;replace HO_12:=rbw HO_12 hb;replace HO_832002:=rbw HO_832002 hb;replace HO_832003:=rbw HO_832003 hb;replace HO_832004:=rbw HO_832004 hb;replace BK817:=bkb BK817 hb;replace BK818:=bkb BK818 hb;replace BK831:=bkb BK831 hb;replace HB:=Aside0.mk (below_step (hb_) hb)))
     go_ret2
     exact ⟨_,by first|rfl|(simp [errW_none,errW_some] <;> rfl)|(simp [*,errW_none,errW_some] <;> rfl),by (with_reducible repeat (first|apply Kd.R_alloc|apply Kd.R_drewN|apply Kd.R_drew));exact Kd.R_mono HO_12.out (fun _ hk => trivial),hb_⟩
 ·replace c8:=Bool.eq_false_iff.mpr c8
  subst c8
  have H1 : (some (([] : List Int),2)) = some (r1,r2):=by rw [if_neg (show ¬ (false = true) by decide)] at H;exact H
  clear H
  have H:=H1
  clear H1
  simp only [Option.some.injEq,Prod.mk.injEq] at H
  obtain ⟨rfl,rfl⟩:=H
  go_enter Try.func26,Try.ntmps26
  go_wp2_with (first|((with_reducible refine gate_dst (N:=4) rfl ?_);refine box_ev (N:=4) (cs:=#[.int .i64 a0_0,.int .i64 a0_1,.slice A0_2 l0_2.length c0_2]) (t:=24) ?_;intro gb817 hg w92 hbox hb;have BK817:=Aside0.mk (hbox);have GW817 : Aside0 (w.heap.size ≤ gb817):=gsz hg;have GE817:=GW817;replace HB:=Aside0.mk (below_step (hb_) hb);clear hb hbox hg)|((with_reducible refine gate_dst (N:=5) rfl ?_);refine box_ev (N:=5) (cs:=#[.slice A1_0 l1_0.length c1_0,.slice A1_1 l1_1.length c1_1]) (t:=26) ?_;intro gb818 hg w93 hbox hb;have BK818:=Aside0.mk (hbox);have GW818 : Aside0 (w.heap.size ≤ gb818):=gsz hg;have GE818:=GW818;have NB817_818:=nbl BK817 hg;have NB818_817:=nbr BK817 hg;replace BK817:=bkb BK817 hb;replace HB:=Aside0.mk (below_step (hb_) hb);clear hb hbox hg;have hnb94:=NB817_818.out;have hnc94:=NB818_817.out;obtain ⟨hcz95_0,hcz95_1,hcz95_2,hfz95_0,hfz95_1,hfz95_2⟩:=cells3 BK817.out;obtain ⟨hcz96_0,hcz96_1,hfz96_0,hfz96_1⟩:=cells2 BK818.out)|((with_reducible refine gate_callee (f:=40) rfl ?_);refine goesL_ (some 18) rfl rfl Try.func40 (by kernel_rfl) rfl #[.agg #[.int .i64 a0_0,.int .i64 a0_1,.slice A0_2 l0_2.length c0_2],.agg #[.slice A1_0 l1_0.length c1_0,.slice A1_1 l1_1.length c1_1],.int .i64 a2] rfl (by (try simp only [List.map_toArray,List.map_cons,List.map_nil]);first|done|rfl|(simp only [List.length_drop,List.length_take];rfl)) ?_;(with_reducible refine (water_at.calls k a0_0 a0_1 _ _ l0_2 _ _ l1_0 _ _ l1_1 a2 t819 t820 t821 t824 t827 t830 _ ?side1 ?side2 ?side3 ?side4 ?side5 ?side6 A5.out).mono ?_);(case side1 => exact Kd.C_up (Kd.C_below HR0_2.out HB.out));(case side2 => exact HC0_2.out);(case side3 => exact Kd.C_up (Kd.C_below HR1_0.out HB.out));(case side4 => exact HC1_0.out);(case side5 => exact Kd.C_up (Kd.C_below HR1_1.out HB.out));(case side6 => exact HC1_1.out);rintro e w97 ⟨v822,v825,v828,rfl,ho0,ho1,ho2,hb⟩;refine ⟨_,rfl,?_⟩;have HO823:=rlo ho0;have HO826:=rlo ho1;have HO829:=rlo ho2;replace BK817:=bkb BK817 hb;replace BK818:=bkb BK818 hb;replace HB:=Aside0.mk (below_step (hb_) hb))|((with_reducible refine gate_dst (N:=10) rfl ?_);refine box_ev (N:=10) (cs:=#[.int .i64 0,.int .i64 0,.slice none 0 0,.slice none 0 0,.slice none 0 0]) (t:=52) ?_;intro gb831 hg w98 hbox hb;have BK831:=Aside0.mk (hbox);have GW831 : Aside0 (w.heap.size ≤ gb831):=gsz hg;have GE831:=GW831;have NB817_831:=nbl BK817 hg;have NB831_817:=nbr BK817 hg;have NB818_831:=nbl BK818 hg;have NB831_818:=nbr BK818 hg;replace HO823:=rbw HO823 hb;replace HO826:=rbw HO826 hb;replace HO829:=rbw HO829 hb;replace BK817:=bkb BK817 hb;replace BK818:=bkb BK818 hb;replace HB:=Aside0.mk (below_step (hb_) hb);clear hb hbox hg;have hnb99:=NB831_817.out;have hnc99:=NB817_831.out;have hnb100:=NB831_818.out;have hnc100:=NB818_831.out;obtain ⟨hcz101_0,hcz101_1,hcz101_2,hcz101_3,hcz101_4,hfz101_0,hfz101_1,hfz101_2,hfz101_3,hfz101_4⟩:=cells5 BK831.out;obtain ⟨Ao102,co102,eo102⟩:=Kd.R_slice HO823.out;subst eo102;obtain ⟨Ao103,co103,eo103⟩:=Kd.R_slice HO826.out;subst eo103;obtain ⟨Ao104,co104,eo104⟩:=Kd.R_slice HO829.out;subst eo104;obtain ⟨hcz105_0,hcz105_1,hfz105_0,hfz105_1⟩:=cells2 BK818.out)|((with_reducible refine gate_callee (f:=45) rfl ?_);refine goesL_ (some 27) rfl rfl Try.func45 (by kernel_rfl) rfl #[.agg #[.int .i64 t819,.int .i64 t820,.slice Ao102 t821.length co102,.slice Ao103 t824.length co103,.slice Ao104 t827.length co104],.agg #[.slice A1_0 l1_0.length c1_0,.slice A1_1 l1_1.length c1_1],.int .i64 a2] rfl (by (try simp only [List.map_toArray,List.map_cons,List.map_nil]);first|done|rfl|(simp only [List.length_drop,List.length_take];rfl)) ?_;(with_reducible refine (water_ground_wet.calls t819 t820 _ _ t821 _ _ t824 _ _ t827 _ _ l1_0 _ _ l1_1 a2 false _ ?side1 ?side2 ?side3 ?side4 ?side5 ?side6 ?side7 ?side8 ?side9 ?side10 A7.out).mono ?_);(case side1 => refine (Kd.R_reads' (e:=3) (base:=w.heap.size) (ok:=fun k_ => some k_ ≠ (.slice Ao103 t824.length co103 : Value).ownBlock) (n:=t821.length) (c:=co102) ?_).2.2;exact (by (with_reducible repeat (first|apply Kd.R_alloc|apply Kd.R_drewN|apply Kd.R_drew));exact (Kd.R_mono (Kd.R_fars gb831 (Kd.R_types HO823.out BK831.out (by decide)) (fun _ hk => hk.2)) (fun _ h_ => h_.1))));(case side2 => exact (Kd.R_reads' HO823.out).2.1);(case side3 => refine (Kd.R_reads' (e:=3) (base:=w.heap.size) (ok:=fun k_ => some k_ ≠ (.slice Ao102 t821.length co102 : Value).ownBlock) (n:=t824.length) (c:=co103) ?_).2.2;exact (by (with_reducible repeat (first|apply Kd.R_alloc|apply Kd.R_drewN|apply Kd.R_drew));exact (Kd.R_mono (Kd.R_fars gb831 (Kd.R_types HO826.out BK831.out (by decide)) (fun _ hk => hk.2)) (fun _ h_ => h_.1))));(case side4 => exact (Kd.R_reads' HO826.out).2.1);(case side5 => refine (Kd.R_reads' (e:=4) (base:=w.heap.size) (ok:=fun k_ => True) (n:=t827.length) (c:=co104) ?_).2.2;exact (by (with_reducible repeat (first|apply Kd.R_alloc|apply Kd.R_drewN|apply Kd.R_drew));exact (Kd.R_mono (Kd.R_fars gb831 (Kd.R_types HO829.out BK831.out (by decide)) (fun _ hk => hk.2)) (fun _ h_ => h_.1))));(case side6 => exact (Kd.R_reads' HO829.out).2.1);(case side7 => exact Kd.C_below HR1_0.out (hb_));(case side8 => exact HC1_0.out);(case side9 => exact Kd.C_below HR1_1.out (hb_));(case side10 => exact HC1_1.out);rintro e w106 ⟨rfl,hb⟩;refine ⟨_,rfl,?_⟩;replace HO823:=Aside0.mk (Kd.R_below (by (with_reducible repeat (first|apply Kd.R_alloc|apply Kd.R_drewN|apply Kd.R_drew));exact (Kd.R_mono (Kd.R_fars gb831 (Kd.R_types HO823.out BK831.out (by decide)) (fun _ hk => hk.2)) (fun _ h_ => h_.1))) hb);replace HO826:=Aside0.mk (Kd.R_below (by (with_reducible repeat (first|apply Kd.R_alloc|apply Kd.R_drewN|apply Kd.R_drew));exact (Kd.R_mono (Kd.R_fars gb831 (Kd.R_types HO826.out BK831.out (by decide)) (fun _ hk => hk.2)) (fun _ h_ => h_.1))) hb);replace HO829:=Aside0.mk (Kd.R_below (by (with_reducible repeat (first|apply Kd.R_alloc|apply Kd.R_drewN|apply Kd.R_drew));exact (Kd.R_mono (Kd.R_fars gb831 (Kd.R_types HO829.out BK831.out (by decide)) (fun _ hk => hk.2)) (fun _ h_ => h_.1))) hb);replace BK817:=Aside0.mk (blk_below (g:=gb817) (o:=.cells #[.int .i64 a0_0,.int .i64 a0_1,.slice A0_2 l0_2.length c0_2] 24 (0,0)) (by (with_reducible repeat (first|refine blk_drewN ?_ _|refine blk_drew ?_|refine blk_alloc ?_ _));refine blk_far ?_ NB817_831.out _;(with_reducible repeat (first|refine blk_drewN ?_ _|refine blk_drew ?_|refine blk_alloc ?_ _));refine blk_far ?_ NB817_831.out _;(with_reducible repeat (first|refine blk_drewN ?_ _|refine blk_drew ?_|refine blk_alloc ?_ _));refine blk_far ?_ NB817_831.out _;(with_reducible repeat (first|refine blk_drewN ?_ _|refine blk_drew ?_|refine blk_alloc ?_ _));refine blk_far ?_ NB817_831.out _;(with_reducible repeat (first|refine blk_drewN ?_ _|refine blk_drew ?_|refine blk_alloc ?_ _));refine blk_far ?_ NB817_831.out _;(with_reducible repeat (first|refine blk_drewN ?_ _|refine blk_drew ?_|refine blk_alloc ?_ _));exact BK817.out) hb);replace BK818:=Aside0.mk (blk_below (g:=gb818) (o:=.cells #[.slice A1_0 l1_0.length c1_0,.slice A1_1 l1_1.length c1_1] 26 (0,0)) (by (with_reducible repeat (first|refine blk_drewN ?_ _|refine blk_drew ?_|refine blk_alloc ?_ _));refine blk_far ?_ NB818_831.out _;(with_reducible repeat (first|refine blk_drewN ?_ _|refine blk_drew ?_|refine blk_alloc ?_ _));refine blk_far ?_ NB818_831.out _;(with_reducible repeat (first|refine blk_drewN ?_ _|refine blk_drew ?_|refine blk_alloc ?_ _));refine blk_far ?_ NB818_831.out _;(with_reducible repeat (first|refine blk_drewN ?_ _|refine blk_drew ?_|refine blk_alloc ?_ _));refine blk_far ?_ NB818_831.out _;(with_reducible repeat (first|refine blk_drewN ?_ _|refine blk_drew ?_|refine blk_alloc ?_ _));refine blk_far ?_ NB818_831.out _;(with_reducible repeat (first|refine blk_drewN ?_ _|refine blk_drew ?_|refine blk_alloc ?_ _));exact BK818.out) hb);replace BK831:=Aside0.mk (blk_below (g:=gb831) (o:=.cells #[.int .i64 t819,.int .i64 t820,.slice Ao102 t821.length co102,.slice Ao103 t824.length co103,.slice Ao104 t827.length co104] 52 (0,0)) (by (with_reducible repeat (first|refine blk_drewN ?_ _|refine blk_drew ?_|refine blk_alloc ?_ _));exact blk_puts5 (blk_up BK831.out)) hb);replace HB:=Aside0.mk (below_step (hb_) hb)))
  go_ret2
  exact ⟨_,by first|rfl|(simp [errW_none,errW_some] <;> rfl)|(simp [*,errW_none,errW_some] <;> rfl),by first|exact Kd.R_nil _ _ _ _ _|exact Kd.N_nil _ _ _ _ _|exact Kd.V_nil _ _ _ _ _|exact Kd.Q_nil _ _ _ _ _|exact Kd.S_nil _ _ _ _ _,hb_⟩

/-! ### hinterlandref06_Next: function 27 -/
mutual
def hinterlandref06_Next.j0 : Nat → Int → Int → Bool → Int → Int → List Int → List Int → List Int → Option (List Int × Int)
 | 0,_,_,_,_,_,_,_,_ => none
 | k + 1,x2,x3,x31,x842000,x842001,x842002,x843000,x843001 => if x31 = true then (some (([] : List Int),1)) else (hinterlandref06_Next.l0 k x2 x3 ([] : List Int) 0 x842000 x842001 x842002 x843000 x843001)
def hinterlandref06_Next.l0 : Nat → Int → Int → List Int → Int → Int → Int → List Int → List Int → List Int → Option (List Int × Int)
 | 0,_,_,_,_,_,_,_,_,_ => none
 | k + 1,x2,x3,x11,x32,x842000,x842001,x842002,x843000,x843001 => if x32 < 4 then (if x32 = x3 then (hinterlandref06_Next.l0 k x2 x3 x11 (wrap64 (x32 + 1)) x842000 x842001 x842002 x843000 x843001) else ((hinterlandref06_Meets.f k x842000 x842001 x842002 x843000 x843001 x2 x32).bind fun t845 => (if t845 ≥ 0 then (if x11.length < 17592186044416 then (hinterlandref06_Next.l0 k x2 x3 (x11 ++ [x32]) (wrap64 (x32 + 1)) x842000 x842001 x842002 x843000 x843001) else (none)) else (hinterlandref06_Next.l0 k x2 x3 x11 (wrap64 (x32 + 1)) x842000 x842001 x842002 x843000 x843001)))) else (if (x11.length : Int) = 0 then (if x3 ≥ 0 then ((hinterlandref06_Meets.f k x842000 x842001 x842002 x843000 x843001 x2 x3).bind fun t849 => (if t849 ≥ 0 then (if x11.length < 17592186044416 then (some ((x11 ++ [x3]),0)) else (none)) else (some (x11,0)))) else (some (x11,0))) else (some (x11,0)))
end
def hinterlandref06_Next.f (k : Nat) (a0_0 : Int) (a0_1 : Int) (l0_2 : List Int) (l1_0 : List Int) (l1_1 : List Int) (a2 : Int) (a3 : Int) : Option (List Int × Int) := (hinterlandref06_place.f k a0_0 a0_1 l0_2 l1_0 l1_1 a2).bind fun t843 => (if t843 = 0 then ((hinterlandref06_Wet.f k a0_0 a0_1 l0_2 l1_0 a2).bind fun t844 => (if t844 = true then (if a3 < (-1) then (hinterlandref06_Next.j0 k a2 a3 true a0_0 a0_1 l0_2 l1_0 l1_1) else (hinterlandref06_Next.j0 k a2 a3 (decide (a3 > 3)) a0_0 a0_1 l0_2 l1_0 l1_1)) else (some (([] : List Int), 2)))) else (some (([] : List Int), t843)))
theorem hinterlandref06_Next.mono_l : ∀ k, (∀ y0 y1 y2 y3 y4 y5 y6 y7, LeO (hinterlandref06_Next.j0 k y0 y1 y2 y3 y4 y5 y6 y7) (hinterlandref06_Next.j0 (k + 1) y0 y1 y2 y3 y4 y5 y6 y7)) ∧ (∀ y0 y1 y2 y3 y4 y5 y6 y7 y8, LeO (hinterlandref06_Next.l0 k y0 y1 y2 y3 y4 y5 y6 y7 y8) (hinterlandref06_Next.l0 (k + 1) y0 y1 y2 y3 y4 y5 y6 y7 y8))
 | 0 => ⟨fun _ _ _ _ _ _ _ _ r h => by simp [hinterlandref06_Next.j0] at h,fun _ _ _ _ _ _ _ _ _ r h => by simp [hinterlandref06_Next.l0] at h⟩
 | k + 1 => by
  obtain ⟨ih0,ih1⟩:=hinterlandref06_Next.mono_l k
  refine ⟨?_,?_⟩
  ·intro y0 y1 y2 y3 y4 y5 y6 y7
   unfold hinterlandref06_Next.j0
   repeat' first
   | (with_reducible exact ih0 _ _ _ _ _ _ _ _)
   | (with_reducible exact ih1 _ _ _ _ _ _ _ _ _)
   | (with_reducible exact hinterlandref06_Meets.mono _ _ _ _ _ _ _ _)
   | (with_reducible exact hinterlandref06_Wet.mono _ _ _ _ _ _)
   | (with_reducible exact hinterlandref06_place.mono _ _ _ _ _ _ _)
   | (with_reducible exact LeO.refl _)
   | (with_reducible exact LeO.none _)
   | (with_reducible refine LeO.ite ?_ ?_)
   | (with_reducible refine LeO.bind ?_ (fun _ => ?_))
   | exact ih0 _ _ _ _ _ _ _ _
   | exact ih1 _ _ _ _ _ _ _ _ _
   | exact hinterlandref06_Meets.mono _ _ _ _ _ _ _ _
   | exact hinterlandref06_Wet.mono _ _ _ _ _ _
   | exact hinterlandref06_place.mono _ _ _ _ _ _ _
   | exact LeO.none _
   | refine LeO.ite ?_ ?_
   | refine LeO.bind ?_ (fun _ => ?_)
  ·intro y0 y1 y2 y3 y4 y5 y6 y7 y8
   unfold hinterlandref06_Next.l0
   repeat' first
   | (with_reducible exact ih0 _ _ _ _ _ _ _ _)
   | (with_reducible exact ih1 _ _ _ _ _ _ _ _ _)
   | (with_reducible exact hinterlandref06_Meets.mono _ _ _ _ _ _ _ _)
   | (with_reducible exact hinterlandref06_Wet.mono _ _ _ _ _ _)
   | (with_reducible exact hinterlandref06_place.mono _ _ _ _ _ _ _)
   | (with_reducible exact LeO.refl _)
   | (with_reducible exact LeO.none _)
   | (with_reducible refine LeO.ite ?_ ?_)
   | (with_reducible refine LeO.bind ?_ (fun _ => ?_))
   | exact ih0 _ _ _ _ _ _ _ _
   | exact ih1 _ _ _ _ _ _ _ _ _
   | exact hinterlandref06_Meets.mono _ _ _ _ _ _ _ _
   | exact hinterlandref06_Wet.mono _ _ _ _ _ _
   | exact hinterlandref06_place.mono _ _ _ _ _ _ _
   | exact LeO.none _
   | refine LeO.ite ?_ ?_
   | refine LeO.bind ?_ (fun _ => ?_)
theorem hinterlandref06_Next.mono : ∀ a0 a1 a2 a3 a4 a5 a6 k, LeO (hinterlandref06_Next.f k a0 a1 a2 a3 a4 a5 a6) (hinterlandref06_Next.f (k + 1) a0 a1 a2 a3 a4 a5 a6) := by
 intro a0 a1 a2 a3 a4 a5 a6 k
 obtain ⟨ih0,ih1⟩:=hinterlandref06_Next.mono_l k
 unfold hinterlandref06_Next.f
 repeat' first
   | (with_reducible exact ih0 _ _ _ _ _ _ _ _)
   | (with_reducible exact ih1 _ _ _ _ _ _ _ _ _)
   | (with_reducible exact hinterlandref06_Meets.mono _ _ _ _ _ _ _ _)
   | (with_reducible exact hinterlandref06_Wet.mono _ _ _ _ _ _)
   | (with_reducible exact hinterlandref06_place.mono _ _ _ _ _ _ _)
   | (with_reducible exact LeO.refl _)
   | (with_reducible exact LeO.none _)
   | (with_reducible refine LeO.ite ?_ ?_)
   | (with_reducible refine LeO.bind ?_ (fun _ => ?_))
   | exact ih0 _ _ _ _ _ _ _ _
   | exact ih1 _ _ _ _ _ _ _ _ _
   | exact hinterlandref06_Meets.mono _ _ _ _ _ _ _ _
   | exact hinterlandref06_Wet.mono _ _ _ _ _ _
   | exact hinterlandref06_place.mono _ _ _ _ _ _ _
   | exact LeO.none _
   | refine LeO.ite ?_ ?_
   | refine LeO.bind ?_ (fun _ => ?_)
set_option maxHeartbeats 8000000 in
set_option maxRecDepth 100000 in
theorem hinterlandref06_Next.calls (k : Nat) (a0_0 : Int) (a0_1 : Int) (A0_2 : Option Addr) (c0_2 : Nat) (l0_2 : List Int) (A1_0 : Option Addr) (c1_0 : Nat) (l1_0 : List Int) (A1_1 : Option Addr) (c1_1 : Nat) (l1_1 : List Int) (a2 : Int) (a3 : Int) (r1 : List Int) (r2 : Int) (w : World) (hr0_2 : Kd.C (Kd.int .i64) w A0_2 l0_2.length l0_2) (hc0_2 : l0_2.length ≤ c0_2) (hr1_0 : Kd.C (Kd.int .i64) w A1_0 l1_0.length l1_0) (hc1_0 : l1_0.length ≤ c1_0) (hr1_1 : Kd.C (Kd.int .i64) w A1_1 l1_1.length l1_1) (hc1_1 : l1_1.length ≤ c1_1) (h : hinterlandref06_Next.f k a0_0 a0_1 l0_2 l1_0 l1_1 a2 a3 = some (r1, r2)) :
  Calls Try.prog 27 #[.agg #[.int .i64 a0_0,.int .i64 a0_1,.slice A0_2 l0_2.length c0_2],.agg #[.slice A1_0 l1_0.length c1_0,.slice A1_1 l1_1.length c1_1],.int .i64 a2,.int .i64 a3] w fun e w' => ∃ v0_ : Value,e = .returned (.tuple #[v0_,.int .i64 r2]) ∧ Kd.R (Kd.int .i64) 3 w' w.heap.size (fun _ => True) v0_ r1 ∧ Below w.heap.size w w':=by
 have hu24:=Try.underlying24
 have hu26:=Try.underlying26
 have HR0_2:=Aside0.mk hr0_2
 have HC0_2:=Aside0.mk hc0_2
 clear hr0_2 hc0_2
 have HR1_0:=Aside0.mk hr1_0
 have HC1_0:=Aside0.mk hc1_0
 clear hr1_0 hc1_0
 have HR1_1:=Aside0.mk hr1_1
 have HC1_1:=Aside0.mk hc1_1
 clear hr1_1 hc1_1
 have HB:=Aside0.mk (Below.refl w.heap.size w)
 have H : ((hinterlandref06_place.f k a0_0 a0_1 l0_2 l1_0 l1_1 a2).bind fun t843 => (if t843 = 0 then ((hinterlandref06_Wet.f k a0_0 a0_1 l0_2 l1_0 a2).bind fun t844 => (if t844 = true then (if a3 < (-1) then (hinterlandref06_Next.j0 k a2 a3 true a0_0 a0_1 l0_2 l1_0 l1_1) else (hinterlandref06_Next.j0 k a2 a3 (decide (a3 > 3)) a0_0 a0_1 l0_2 l1_0 l1_1)) else (some (([] : List Int),2)))) else (some (([] : List Int),t843)))) = some (r1,r2):=h
 clear h
 replace H:=Option.bind_eq_some_iff.mp H
 obtain ⟨t843,A50,H⟩:=H
 replace H : (if t843 = 0 then ((hinterlandref06_Wet.f k a0_0 a0_1 l0_2 l1_0 a2).bind fun t844 => (if t844 = true then (if a3 < (-1) then (hinterlandref06_Next.j0 k a2 a3 true a0_0 a0_1 l0_2 l1_0 l1_1) else (hinterlandref06_Next.j0 k a2 a3 (decide (a3 > 3)) a0_0 a0_1 l0_2 l1_0 l1_1)) else (some (([] : List Int),2)))) else (some (([] : List Int),t843))) = some (r1,r2):=H
 have A5:=Aside0.mk A50
 clear A50
 by_cases c6 : t843 = 0
 rotate_left
 ·rw [if_neg c6] at H
  have c6b0 : (t843 == 0) = false:=beq_eq_false_iff_ne.mpr c6
  have c6b1 : (t843 != 0) = true:=bne_iff_ne.mpr c6
  simp only [Option.some.injEq,Prod.mk.injEq] at H
  obtain ⟨rfl,rfl⟩:=H
  go_enter Try.func27,Try.ntmps27
  go_wp2_with (first|((with_reducible refine gate_dst (N:=4) rfl ?_);refine box_ev (N:=4) (cs:=#[.int .i64 a0_0,.int .i64 a0_1,.slice A0_2 l0_2.length c0_2]) (t:=24) ?_;intro gb841 hg w62 hbox hb;have BK841:=Aside0.mk (hbox);have GW841 : Aside0 (w.heap.size ≤ gb841):=gsz hg;have GE841:=GW841;replace HB:=Aside0.mk (below_step (hb_) hb);clear hb hbox hg)|((with_reducible refine gate_dst (N:=5) rfl ?_);refine box_ev (N:=5) (cs:=#[.slice A1_0 l1_0.length c1_0,.slice A1_1 l1_1.length c1_1]) (t:=26) ?_;intro gb842 hg w63 hbox hb;have BK842:=Aside0.mk (hbox);have GW842 : Aside0 (w.heap.size ≤ gb842):=gsz hg;have GE842:=GW842;have NB841_842:=nbl BK841 hg;have NB842_841:=nbr BK841 hg;replace BK841:=bkb BK841 hb;replace HB:=Aside0.mk (below_step (hb_) hb);clear hb hbox hg;have hnb64:=NB841_842.out;have hnc64:=NB842_841.out;obtain ⟨hcz65_0,hcz65_1,hcz65_2,hfz65_0,hfz65_1,hfz65_2⟩:=cells3 BK841.out;obtain ⟨hcz66_0,hcz66_1,hfz66_0,hfz66_1⟩:=cells2 BK842.out)|((with_reducible refine gate_callee (f:=42) rfl ?_);refine goesL_ (some 16) rfl rfl Try.func42 (by kernel_rfl) rfl #[.agg #[.int .i64 a0_0,.int .i64 a0_1,.slice A0_2 l0_2.length c0_2],.agg #[.slice A1_0 l1_0.length c1_0,.slice A1_1 l1_1.length c1_1],.int .i64 a2] rfl (by (try simp only [List.map_toArray,List.map_cons,List.map_nil]);first|done|rfl|(simp only [List.length_drop,List.length_take];rfl)) ?_;(with_reducible refine (hinterlandref06_place.calls k a0_0 a0_1 _ _ l0_2 _ _ l1_0 _ _ l1_1 a2 t843 _ ?side1 ?side2 ?side3 ?side4 ?side5 ?side6 A5.out).mono ?_);(case side1 => exact Kd.C_up (Kd.C_below HR0_2.out HB.out));(case side2 => exact HC0_2.out);(case side3 => exact Kd.C_up (Kd.C_below HR1_0.out HB.out));(case side4 => exact HC1_0.out);(case side5 => exact Kd.C_up (Kd.C_below HR1_1.out HB.out));(case side6 => exact HC1_1.out);rintro e w67 ⟨rfl,hb⟩;refine ⟨_,rfl,?_⟩;replace BK841:=bkb BK841 hb;replace BK842:=bkb BK842 hb;replace HB:=Aside0.mk (below_step (hb_) hb)))
  go_ret2
  exact ⟨_,by first|rfl|(simp [errW_none,errW_some] <;> rfl)|(simp [*,errW_none,errW_some] <;> rfl),by first|exact Kd.R_nil _ _ _ _ _|exact Kd.N_nil _ _ _ _ _|exact Kd.V_nil _ _ _ _ _|exact Kd.Q_nil _ _ _ _ _|exact Kd.S_nil _ _ _ _ _,hb_⟩
 rw [if_pos c6] at H
 have c6b0 : (t843 == 0) = true:=beq_iff_eq.mpr c6
 have c6b1 : (t843 != 0) = false:=bne_eq_false_iff_eq.mpr c6
 clear c6
 replace H:=Option.bind_eq_some_iff.mp H
 obtain ⟨t844,A70,H⟩:=H
 replace H : (if t844 = true then (if a3 < (-1) then (hinterlandref06_Next.j0 k a2 a3 true a0_0 a0_1 l0_2 l1_0 l1_1) else (hinterlandref06_Next.j0 k a2 a3 (decide (a3 > 3)) a0_0 a0_1 l0_2 l1_0 l1_1)) else (some (([] : List Int),2))) = some (r1,r2):=H
 have A7:=Aside0.mk A70
 clear A70
 by_cases c8 : t844 = true
 ·subst c8
  have H1 : (if a3 < (-1) then (hinterlandref06_Next.j0 k a2 a3 true a0_0 a0_1 l0_2 l1_0 l1_1) else (hinterlandref06_Next.j0 k a2 a3 (decide (a3 > 3)) a0_0 a0_1 l0_2 l1_0 l1_1)) = some (r1,r2):=by rw [if_pos rfl] at H;exact H
  clear H
  have H:=H1
  clear H1
  have HC9:=Aside0.mk H
  clear H
  go_enter Try.func27,Try.ntmps27
  go_upto_region 6 with (first|((with_reducible refine gate_dst (N:=4) rfl ?_);refine box_ev (N:=4) (cs:=#[.int .i64 a0_0,.int .i64 a0_1,.slice A0_2 l0_2.length c0_2]) (t:=24) ?_;intro gb841 hg w10 hbox hb;have BK841:=Aside0.mk (hbox);have GW841 : Aside0 (w.heap.size ≤ gb841):=gsz hg;have GE841:=GW841;replace HB:=Aside0.mk (below_step (hb_) hb);clear hb hbox hg)|((with_reducible refine gate_dst (N:=5) rfl ?_);refine box_ev (N:=5) (cs:=#[.slice A1_0 l1_0.length c1_0,.slice A1_1 l1_1.length c1_1]) (t:=26) ?_;intro gb842 hg w11 hbox hb;have BK842:=Aside0.mk (hbox);have GW842 : Aside0 (w.heap.size ≤ gb842):=gsz hg;have GE842:=GW842;have NB841_842:=nbl BK841 hg;have NB842_841:=nbr BK841 hg;replace BK841:=bkb BK841 hb;replace HB:=Aside0.mk (below_step (hb_) hb);clear hb hbox hg;have hnb12:=NB841_842.out;have hnc12:=NB842_841.out;obtain ⟨hcz13_0,hcz13_1,hcz13_2,hfz13_0,hfz13_1,hfz13_2⟩:=cells3 BK841.out;obtain ⟨hcz14_0,hcz14_1,hfz14_0,hfz14_1⟩:=cells2 BK842.out)|((with_reducible refine gate_callee (f:=42) rfl ?_);refine goesL_ (some 16) rfl rfl Try.func42 (by kernel_rfl) rfl #[.agg #[.int .i64 a0_0,.int .i64 a0_1,.slice A0_2 l0_2.length c0_2],.agg #[.slice A1_0 l1_0.length c1_0,.slice A1_1 l1_1.length c1_1],.int .i64 a2] rfl (by (try simp only [List.map_toArray,List.map_cons,List.map_nil]);first|done|rfl|(simp only [List.length_drop,List.length_take];rfl)) ?_;(with_reducible refine (hinterlandref06_place.calls k a0_0 a0_1 _ _ l0_2 _ _ l1_0 _ _ l1_1 a2 t843 _ ?side1 ?side2 ?side3 ?side4 ?side5 ?side6 A5.out).mono ?_);(case side1 => exact Kd.C_up (Kd.C_below HR0_2.out HB.out));(case side2 => exact HC0_2.out);(case side3 => exact Kd.C_up (Kd.C_below HR1_0.out HB.out));(case side4 => exact HC1_0.out);(case side5 => exact Kd.C_up (Kd.C_below HR1_1.out HB.out));(case side6 => exact HC1_1.out);rintro e w15 ⟨rfl,hb⟩;refine ⟨_,rfl,?_⟩;replace BK841:=bkb BK841 hb;replace BK842:=bkb BK842 hb;replace HB:=Aside0.mk (below_step (hb_) hb);obtain ⟨hcz16_0,hcz16_1,hcz16_2,hfz16_0,hfz16_1,hfz16_2⟩:=cells3 BK841.out;obtain ⟨hcz17_0,hcz17_1,hfz17_0,hfz17_1⟩:=cells2 BK842.out)|((with_reducible refine gate_callee (f:=47) rfl ?_);refine goesL_ (some 24) rfl rfl Try.func47 (by kernel_rfl) rfl #[.agg #[.int .i64 a0_0,.int .i64 a0_1,.slice A0_2 l0_2.length c0_2],.slice A1_0 l1_0.length c1_0,.int .i64 a2] rfl (by (try simp only [List.map_toArray,List.map_cons,List.map_nil]);first|done|rfl|(simp only [List.length_drop,List.length_take];rfl)) ?_;(with_reducible refine (hinterlandref06_Wet.calls k a0_0 a0_1 _ _ l0_2 _ _ l1_0 a2 true _ ?side1 ?side2 ?side3 ?side4 A7.out).mono ?_);(case side1 => exact Kd.C_up (Kd.C_below HR0_2.out HB.out));(case side2 => exact HC0_2.out);(case side3 => exact Kd.C_up (Kd.C_below HR1_0.out HB.out));(case side4 => exact HC1_0.out);rintro e w18 ⟨rfl,hb⟩;refine ⟨_,rfl,?_⟩;replace BK841:=bkb BK841 hb;replace BK842:=bkb BK842 hb;replace HB:=Aside0.mk (below_step (hb_) hb)))
  (try simp only [Act.put,List.setIfInBounds_toArray,List.set_cons_zero,List.set_cons_succ])
  go_cut [31] (fun v31 wc => ∃ (kq : Nat) (x31_8 : Bool),v31 = .bool x31_8 ∧ Aside0 (hinterlandref06_Next.j0 kq a2 a3 x31_8 a0_0 a0_1 l0_2 l1_0 l1_1 = some (r1,r2)) ∧ Aside0 (kq ≤ k) ∧ Aside0 (wc.heap[gb841]? = some (.cells #[.int .i64 a0_0,.int .i64 a0_1,(.slice A0_2 l0_2.length c0_2)] 24 (0,0))) ∧ Aside0 (wc.heap[gb842]? = some (.cells #[(.slice A1_0 l1_0.length c1_0),(.slice A1_1 l1_1.length c1_1)] 26 (0,0))) ∧ Aside0 (Below w.heap.size w wc))
  case first =>
   have H:=HC9.out
   clear HC9
   by_cases c19 : a3 < (-1)
   ·rw [if_pos c19] at H
    have c19b0 : decide (a3 < (-1)) = true:=decide_eq_true c19
    clear c19
    (first|rw [c19b0]|(simp only [i64_w,i32_w];rw [c19b0])|skip)
    have H':=Aside0.mk H
    clear H
    go_wp2
    go_meet
    case rel => exact ⟨_,(true),(by first|rfl|(simp;done)|(simp [*];done)),H',⟨by first|omega|exact Nat.le_refl _⟩,⟨blk_up BK841.out⟩,⟨blk_up BK842.out⟩,⟨hb_⟩⟩
   ·rw [if_neg c19] at H
    have c19b0 : decide (a3 < (-1)) = false:=decide_eq_false c19
    clear c19
    (first|rw [c19b0]|(simp only [i64_w,i32_w];rw [c19b0])|skip)
    have H':=Aside0.mk H
    clear H
    go_wp2
    go_meet
    case rel => exact ⟨_,(decide (a3 > 3)),(by first|rfl|(simp;done)|(simp [*];done)),H',⟨by first|omega|exact Nat.le_refl _⟩,⟨blk_up BK841.out⟩,⟨blk_up BK842.out⟩,⟨hb_⟩⟩
  case rest =>
   clear HC9
   obtain ⟨kq,x31_8,rfl,HA,HJ8,BK841,BK842,HB⟩:=hcut
   cases kq with
   | zero => exact absurd HA.out (by simp [hinterlandref06_Next.j0])
   | succ kj8 =>
    have H:=HA.out
    clear HA
    simp only [hinterlandref06_Next.j0] at H
    by_cases c20 : x31_8 = true
    ·subst c20
     have H1 : (some (([] : List Int),1)) = some (r1,r2):=by rw [if_pos rfl] at H;exact H
     clear H
     have H:=H1
     clear H1
     simp only [Option.some.injEq,Prod.mk.injEq] at H
     obtain ⟨rfl,rfl⟩:=H
     go_wp2
     go_ret2
     exact ⟨_,by first|rfl|(simp [errW_none,errW_some] <;> rfl)|(simp [*,errW_none,errW_some] <;> rfl),by first|exact Kd.R_nil _ _ _ _ _|exact Kd.N_nil _ _ _ _ _|exact Kd.V_nil _ _ _ _ _|exact Kd.Q_nil _ _ _ _ _|exact Kd.S_nil _ _ _ _ _,hb_⟩
    ·replace c20:=Bool.eq_false_iff.mpr c20
     subst c20
     have H1 : (hinterlandref06_Next.l0 kj8 a2 a3 ([] : List Int) 0 a0_0 a0_1 l0_2 l1_0 l1_1) = some (r1,r2):=by rw [if_neg (show ¬ (false = true) by decide)] at H;exact H
     clear H
     have H:=H1
     clear H1
     have H':=Aside0.mk H
     clear H
     go_wp2
     go_loopg [11,32] kj8 (fun kq v11 v32 w' => ∃ (x11_2 : List Int) (x32_2 : Int),v32 = .int .i64 x32_2 ∧ Aside0 (hinterlandref06_Next.l0 kq a2 a3 x11_2 x32_2 a0_0 a0_1 l0_2 l1_0 l1_1 = some (r1,r2)) ∧ Aside0 (kq ≤ kj8) ∧ Aside0 (Kd.R (Kd.int .i64) 3 w' w.heap.size (fun _ => True) v11 x11_2) ∧ Aside0 (w'.heap[gb841]? = some (.cells #[.int .i64 a0_0,.int .i64 a0_1,(.slice A0_2 l0_2.length c0_2)] 24 (0,0))) ∧ Aside0 (w'.heap[gb842]? = some (.cells #[(.slice A1_0 l1_0.length c1_0),(.slice A1_1 l1_1.length c1_1)] 26 (0,0))) ∧ Aside0 (Below w.heap.size w w'))
     case atStart => exact ⟨(([] : List Int)),(0),(by first|rfl|(simp;done)|(simp [*];done)),H',⟨Nat.le_refl _⟩,⟨by first|exact Kd.R_nil _ _ _ _ _|exact Kd.N_nil _ _ _ _ _|exact Kd.V_nil _ _ _ _ _|exact Kd.Q_nil _ _ _ _ _|exact Kd.S_nil _ _ _ _ _⟩,⟨blk_up BK841.out⟩,⟨blk_up BK842.out⟩,⟨hb_⟩⟩
     case round =>
      clear H'
      obtain ⟨x11_2,x32_2,rfl,HA,HK2,HO_11,BK841,BK842,HB⟩:=hrel
      cases gk with
      | zero => exact absurd HA.out (by simp [hinterlandref06_Next.l0])
      | succ k2 =>
       have H:=HA.out
       clear HA
       simp only [hinterlandref06_Next.l0] at H
       by_cases c21 : x32_2 < 4
       ·rw [if_pos c21] at H
        have c21b0 : decide (x32_2 < 4) = true:=decide_eq_true c21
        clear c21
        by_cases c22 : x32_2 = a3
        ·rw [if_pos c22] at H
         have c22b0 : (x32_2 == a3) = true:=beq_iff_eq.mpr c22
         have c22b1 : (x32_2 != a3) = false:=bne_eq_false_iff_eq.mpr c22
         clear c22
         have H':=Aside0.mk H
         clear H
         go_wp2
         go_roundg k2
         case measure => have:=HJ8.out;have:=HK2.out;omega
         case rel => exact ⟨(x11_2),(wrap64 (x32_2 + 1)),(by first|rfl|(simp;done)|(simp [*];done)),H',⟨by have:=HJ8.out;have:=HK2.out;omega⟩,⟨Kd.R_up HO_11.out⟩,⟨blk_up BK841.out⟩,⟨blk_up BK842.out⟩,⟨hb_⟩⟩
        rw [if_neg c22] at H
        have c22b0 : (x32_2 == a3) = false:=beq_eq_false_iff_ne.mpr c22
        have c22b1 : (x32_2 != a3) = true:=bne_iff_ne.mpr c22
        replace H:=Option.bind_eq_some_iff.mp H
        obtain ⟨t845,A230,H⟩:=H
        replace H : (if t845 ≥ 0 then (if x11_2.length < 17592186044416 then (hinterlandref06_Next.l0 k2 a2 a3 (x11_2 ++ [x32_2]) (wrap64 (x32_2 + 1)) a0_0 a0_1 l0_2 l1_0 l1_1) else (none)) else (hinterlandref06_Next.l0 k2 a2 a3 x11_2 (wrap64 (x32_2 + 1)) a0_0 a0_1 l0_2 l1_0 l1_1)) = some (r1,r2):=H
        have A23:=Aside0.mk A230
        clear A230
        by_cases c24 : t845 ≥ 0
        ·rw [if_pos c24] at H
         have c24b0 : decide (0 ≤ t845) = true:=decide_eq_true c24
         clear c24
         replace H:=ifp_ H;obtain ⟨c25,H⟩:=H
         have LMc25:=Aside0.mk c25
         clear c25
         obtain ⟨y846,hy846⟩ : ∃ y_ : List Int,y_ = (x11_2 ++ [x32_2]):=⟨_,rfl⟩
         replace H : (hinterlandref06_Next.l0 k2 a2 a3 y846 (wrap64 (x32_2 + 1)) a0_0 a0_1 l0_2 l1_0 l1_1) = some (r1,r2):=by first|(rw [hy846];with_reducible exact H)|(have H2_:=(Option.bind_some _ _).symm.trans H;rw [hy846];with_reducible exact H2_)|(have H2_:=(Option.bind_some _ _).symm.trans H;with_reducible exact H2_)|with_reducible exact H|(rw [hy846];exact H)|exact H
         have Ny846:=Aside0.mk hy846
         clear hy846
         have H':=Aside0.mk H
         clear H
         have hnb26:=NB841_842.out
         have hnc26:=NB842_841.out
         obtain ⟨hcz27_0,hcz27_1,hcz27_2,hfz27_0,hfz27_1,hfz27_2⟩:=cells3 BK841.out
         obtain ⟨hcz28_0,hcz28_1,hfz28_0,hfz28_1⟩:=cells2 BK842.out
         go_wp2_with (first|(go_at_call 43;(with_reducible refine (hinterlandref06_Meets.calls k2 a0_0 a0_1 _ _ l0_2 _ _ l1_0 _ _ l1_1 a2 x32_2 t845 _ ?side1 ?side2 ?side3 ?side4 ?side5 ?side6 A23.out).mono ?_);(case side1 => exact Kd.C_up (Kd.C_below HR0_2.out HB.out));(case side2 => exact HC0_2.out);(case side3 => exact Kd.C_up (Kd.C_below HR1_0.out HB.out));(case side4 => exact HC1_0.out);(case side5 => exact Kd.C_up (Kd.C_below HR1_1.out HB.out));(case side6 => exact HC1_1.out);rintro e w29 ⟨rfl,hb⟩;replace HO_11:=rbw HO_11 hb;replace BK841:=bkb BK841 hb;replace BK842:=bkb BK842 hb;replace HB:=Aside0.mk (below_step (hb_) hb))|((with_reducible refine gate_builtin (b:=.append) (xs:=#[.tmp 46,.tmp 48]) rfl ?_);at_builtin;refine Kd.R_append (Kd.int .i64) (w0:=w) w.heap.size rfl (.tmp 46) (.tmp 48) 22 3 (.int .i64 0) 8 rfl Try.underlying22 info3 rfl (by decide) (by omega) u11 x11_2 x32_2 [.int .i64 x32_2] (fun _ => True) (fun _ => False) rfl rfl ?aP (fun _ hk => hk.elim) ?aF ?aO ?aB ?aS ?aL ?_;(case aP => exact rfl);(case aB => exact (hb_));(case aF => exact (fun _ _ => trivial));(case aO => exact (Kd.R_up HO_11.out));(case aS => exact (below_size (hb_)));(case aL => have:=LMc25.out;omega);intro v847 w30 ho hb hg hat;rw [← Ny846.out] at ho;have HO848:=Aside0.mk (ho);replace BK841:=Aside0.mk (blk_grown (blk_up BK841.out) hg (Kd.R_ne HO_11.out BK841.out (by decide)));replace BK842:=Aside0.mk (blk_grown (blk_up BK842.out) hg (Kd.R_ne HO_11.out BK842.out (by decide)));replace HB:=Aside0.mk (hb);clear HO_11;clear ho hb hg hat))
         go_roundg k2
         case measure => have:=HJ8.out;have:=HK2.out;omega
         case rel => exact ⟨(y846),(wrap64 (x32_2 + 1)),(by first|rfl|(simp;done)|(simp [*];done)),H',⟨by have:=HJ8.out;have:=HK2.out;omega⟩,⟨Kd.R_up HO848.out⟩,⟨blk_up BK841.out⟩,⟨blk_up BK842.out⟩,⟨hb_⟩⟩
        ·rw [if_neg c24] at H
         have c24b0 : decide (0 ≤ t845) = false:=decide_eq_false c24
         clear c24
         have H':=Aside0.mk H
         clear H
         have hnb31:=NB841_842.out
         have hnc31:=NB842_841.out
         obtain ⟨hcz32_0,hcz32_1,hcz32_2,hfz32_0,hfz32_1,hfz32_2⟩:=cells3 BK841.out
         obtain ⟨hcz33_0,hcz33_1,hfz33_0,hfz33_1⟩:=cells2 BK842.out
         go_wp2_with (first|(go_at_call 43;(with_reducible refine (hinterlandref06_Meets.calls k2 a0_0 a0_1 _ _ l0_2 _ _ l1_0 _ _ l1_1 a2 x32_2 t845 _ ?side1 ?side2 ?side3 ?side4 ?side5 ?side6 A23.out).mono ?_);(case side1 => exact Kd.C_up (Kd.C_below HR0_2.out HB.out));(case side2 => exact HC0_2.out);(case side3 => exact Kd.C_up (Kd.C_below HR1_0.out HB.out));(case side4 => exact HC1_0.out);(case side5 => exact Kd.C_up (Kd.C_below HR1_1.out HB.out));(case side6 => exact HC1_1.out);rintro e w34 ⟨rfl,hb⟩;replace HO_11:=rbw HO_11 hb;replace BK841:=bkb BK841 hb;replace BK842:=bkb BK842 hb;replace HB:=Aside0.mk (below_step (hb_) hb)))
         go_roundg k2
         case measure => have:=HJ8.out;have:=HK2.out;omega
         case rel => exact ⟨(x11_2),(wrap64 (x32_2 + 1)),(by first|rfl|(simp;done)|(simp [*];done)),H',⟨by have:=HJ8.out;have:=HK2.out;omega⟩,⟨Kd.R_up HO_11.out⟩,⟨blk_up BK841.out⟩,⟨blk_up BK842.out⟩,⟨hb_⟩⟩
       rw [if_neg c21] at H
       have c21b0 : decide (x32_2 < 4) = false:=decide_eq_false c21
       clear c21
       by_cases c35 : (x11_2.length : Int) = 0
       rotate_left
       ·rw [if_neg c35] at H
        have c35b0 : ((x11_2.length : Int) == 0) = false:=beq_eq_false_iff_ne.mpr c35
        have c35b1 : ((x11_2.length : Int) != 0) = true:=bne_iff_ne.mpr c35
        have c35b2 : ¬ (x11_2 = []):=fun h_ => c35 (by rw [h_];rfl)
        simp only [Option.some.injEq,Prod.mk.injEq] at H
        obtain ⟨rfl,rfl⟩:=H
        obtain ⟨Ao52,co52,eo52⟩:=Kd.R_slice HO_11.out
        subst eo52
        go_wp2
        go_ret2
        exact ⟨_,by first|rfl|(simp [errW_none,errW_some] <;> rfl)|(simp [*,errW_none,errW_some] <;> rfl),Kd.R_up HO_11.out,hb_⟩
       rw [if_pos c35] at H
       have c35b0 : ((x11_2.length : Int) == 0) = true:=beq_iff_eq.mpr c35
       have c35b1 : ((x11_2.length : Int) != 0) = false:=bne_eq_false_iff_eq.mpr c35
       clear c35
       by_cases c36 : a3 ≥ 0
       ·rw [if_pos c36] at H
        have c36b0 : decide (0 ≤ a3) = true:=decide_eq_true c36
        clear c36
        replace H:=Option.bind_eq_some_iff.mp H
        obtain ⟨t849,A370,H⟩:=H
        replace H : (if t849 ≥ 0 then (if x11_2.length < 17592186044416 then (some ((x11_2 ++ [a3]),0)) else (none)) else (some (x11_2,0))) = some (r1,r2):=H
        have A37:=Aside0.mk A370
        clear A370
        by_cases c38 : t849 ≥ 0
        ·rw [if_pos c38] at H
         have c38b0 : decide (0 ≤ t849) = true:=decide_eq_true c38
         clear c38
         replace H:=ifp_ H;obtain ⟨c39,H⟩:=H
         have LMc39:=Aside0.mk c39
         clear c39
         obtain ⟨y850,hy850⟩ : ∃ y_ : List Int,y_ = (x11_2 ++ [a3]):=⟨_,rfl⟩
         replace H : (some (y850,0)) = some (r1,r2):=by first|(rw [hy850];with_reducible exact H)|(have H2_:=(Option.bind_some _ _).symm.trans H;rw [hy850];with_reducible exact H2_)|(have H2_:=(Option.bind_some _ _).symm.trans H;with_reducible exact H2_)|with_reducible exact H|(rw [hy850];exact H)|exact H
         have Ny850:=Aside0.mk hy850
         clear hy850
         simp only [Option.some.injEq,Prod.mk.injEq] at H
         obtain ⟨rfl,rfl⟩:=H
         obtain ⟨Ao40,co40,eo40⟩:=Kd.R_slice HO_11.out
         subst eo40
         have hnb41:=NB841_842.out
         have hnc41:=NB842_841.out
         obtain ⟨hcz42_0,hcz42_1,hcz42_2,hfz42_0,hfz42_1,hfz42_2⟩:=cells3 BK841.out
         obtain ⟨hcz43_0,hcz43_1,hfz43_0,hfz43_1⟩:=cells2 BK842.out
         go_wp2_with (first|(go_at_call 43;(with_reducible refine (hinterlandref06_Meets.calls k2 a0_0 a0_1 _ _ l0_2 _ _ l1_0 _ _ l1_1 a2 a3 t849 _ ?side1 ?side2 ?side3 ?side4 ?side5 ?side6 A37.out).mono ?_);(case side1 => exact Kd.C_up (Kd.C_below HR0_2.out HB.out));(case side2 => exact HC0_2.out);(case side3 => exact Kd.C_up (Kd.C_below HR1_0.out HB.out));(case side4 => exact HC1_0.out);(case side5 => exact Kd.C_up (Kd.C_below HR1_1.out HB.out));(case side6 => exact HC1_1.out);rintro e w44 ⟨rfl,hb⟩;replace HO_11:=rbw HO_11 hb;replace BK841:=bkb BK841 hb;replace BK842:=bkb BK842 hb;replace HB:=Aside0.mk (below_step (hb_) hb))|((with_reducible refine gate_builtin (b:=.append) (xs:=#[.tmp 66,.tmp 68]) rfl ?_);at_builtin;refine Kd.R_append (Kd.int .i64) (w0:=w) w.heap.size rfl (.tmp 66) (.tmp 68) 22 3 (.int .i64 0) 8 rfl Try.underlying22 info3 rfl (by decide) (by omega) (.slice Ao40 x11_2.length co40) x11_2 a3 [.int .i64 a3] (fun _ => True) (fun _ => False) rfl rfl ?aP (fun _ hk => hk.elim) ?aF ?aO ?aB ?aS ?aL ?_;(case aP => exact rfl);(case aB => exact (hb_));(case aF => exact (fun _ _ => trivial));(case aO => exact (Kd.R_up HO_11.out));(case aS => exact (below_size (hb_)));(case aL => have:=LMc39.out;omega);intro v851 w45 ho hb hg hat;rw [← Ny850.out] at ho;have HO852:=Aside0.mk (ho);replace BK841:=Aside0.mk (blk_grown (blk_up BK841.out) hg (Kd.R_ne HO_11.out BK841.out (by decide)));replace BK842:=Aside0.mk (blk_grown (blk_up BK842.out) hg (Kd.R_ne HO_11.out BK842.out (by decide)));replace HB:=Aside0.mk (hb);clear HO_11;clear ho hb hg hat))
         go_ret2
         exact ⟨_,by first|rfl|(simp [errW_none,errW_some] <;> rfl)|(simp [*,errW_none,errW_some] <;> rfl),Kd.R_up HO852.out,hb_⟩
        ·rw [if_neg c38] at H
         have c38b0 : decide (0 ≤ t849) = false:=decide_eq_false c38
         clear c38
         simp only [Option.some.injEq,Prod.mk.injEq] at H
         obtain ⟨rfl,rfl⟩:=H
         obtain ⟨Ao46,co46,eo46⟩:=Kd.R_slice HO_11.out
         subst eo46
         have hnb47:=NB841_842.out
         have hnc47:=NB842_841.out
         obtain ⟨hcz48_0,hcz48_1,hcz48_2,hfz48_0,hfz48_1,hfz48_2⟩:=cells3 BK841.out
         obtain ⟨hcz49_0,hcz49_1,hfz49_0,hfz49_1⟩:=cells2 BK842.out
         go_wp2_with (first|(go_at_call 43;(with_reducible refine (hinterlandref06_Meets.calls k2 a0_0 a0_1 _ _ l0_2 _ _ l1_0 _ _ l1_1 a2 a3 t849 _ ?side1 ?side2 ?side3 ?side4 ?side5 ?side6 A37.out).mono ?_);(case side1 => exact Kd.C_up (Kd.C_below HR0_2.out HB.out));(case side2 => exact HC0_2.out);(case side3 => exact Kd.C_up (Kd.C_below HR1_0.out HB.out));(case side4 => exact HC1_0.out);(case side5 => exact Kd.C_up (Kd.C_below HR1_1.out HB.out));(case side6 => exact HC1_1.out);rintro e w50 ⟨rfl,hb⟩;replace HO_11:=rbw HO_11 hb;replace BK841:=bkb BK841 hb;replace BK842:=bkb BK842 hb;replace HB:=Aside0.mk (below_step (hb_) hb)))
         go_ret2
         exact ⟨_,by first|rfl|(simp [errW_none,errW_some] <;> rfl)|(simp [*,errW_none,errW_some] <;> rfl),Kd.R_up HO_11.out,hb_⟩
       ·rw [if_neg c36] at H
        have c36b0 : decide (0 ≤ a3) = false:=decide_eq_false c36
        clear c36
        simp only [Option.some.injEq,Prod.mk.injEq] at H
        obtain ⟨rfl,rfl⟩:=H
        obtain ⟨Ao51,co51,eo51⟩:=Kd.R_slice HO_11.out
        subst eo51
        go_wp2
        go_ret2
        exact ⟨_,by first|rfl|(simp [errW_none,errW_some] <;> rfl)|(simp [*,errW_none,errW_some] <;> rfl),Kd.R_up HO_11.out,hb_⟩
 ·replace c8:=Bool.eq_false_iff.mpr c8
  subst c8
  have H1 : (some (([] : List Int),2)) = some (r1,r2):=by rw [if_neg (show ¬ (false = true) by decide)] at H;exact H
  clear H
  have H:=H1
  clear H1
  simp only [Option.some.injEq,Prod.mk.injEq] at H
  obtain ⟨rfl,rfl⟩:=H
  go_enter Try.func27,Try.ntmps27
  go_wp2_with (first|((with_reducible refine gate_dst (N:=4) rfl ?_);refine box_ev (N:=4) (cs:=#[.int .i64 a0_0,.int .i64 a0_1,.slice A0_2 l0_2.length c0_2]) (t:=24) ?_;intro gb841 hg w53 hbox hb;have BK841:=Aside0.mk (hbox);have GW841 : Aside0 (w.heap.size ≤ gb841):=gsz hg;have GE841:=GW841;replace HB:=Aside0.mk (below_step (hb_) hb);clear hb hbox hg)|((with_reducible refine gate_dst (N:=5) rfl ?_);refine box_ev (N:=5) (cs:=#[.slice A1_0 l1_0.length c1_0,.slice A1_1 l1_1.length c1_1]) (t:=26) ?_;intro gb842 hg w54 hbox hb;have BK842:=Aside0.mk (hbox);have GW842 : Aside0 (w.heap.size ≤ gb842):=gsz hg;have GE842:=GW842;have NB841_842:=nbl BK841 hg;have NB842_841:=nbr BK841 hg;replace BK841:=bkb BK841 hb;replace HB:=Aside0.mk (below_step (hb_) hb);clear hb hbox hg;have hnb55:=NB841_842.out;have hnc55:=NB842_841.out;obtain ⟨hcz56_0,hcz56_1,hcz56_2,hfz56_0,hfz56_1,hfz56_2⟩:=cells3 BK841.out;obtain ⟨hcz57_0,hcz57_1,hfz57_0,hfz57_1⟩:=cells2 BK842.out)|((with_reducible refine gate_callee (f:=42) rfl ?_);refine goesL_ (some 16) rfl rfl Try.func42 (by kernel_rfl) rfl #[.agg #[.int .i64 a0_0,.int .i64 a0_1,.slice A0_2 l0_2.length c0_2],.agg #[.slice A1_0 l1_0.length c1_0,.slice A1_1 l1_1.length c1_1],.int .i64 a2] rfl (by (try simp only [List.map_toArray,List.map_cons,List.map_nil]);first|done|rfl|(simp only [List.length_drop,List.length_take];rfl)) ?_;(with_reducible refine (hinterlandref06_place.calls k a0_0 a0_1 _ _ l0_2 _ _ l1_0 _ _ l1_1 a2 t843 _ ?side1 ?side2 ?side3 ?side4 ?side5 ?side6 A5.out).mono ?_);(case side1 => exact Kd.C_up (Kd.C_below HR0_2.out HB.out));(case side2 => exact HC0_2.out);(case side3 => exact Kd.C_up (Kd.C_below HR1_0.out HB.out));(case side4 => exact HC1_0.out);(case side5 => exact Kd.C_up (Kd.C_below HR1_1.out HB.out));(case side6 => exact HC1_1.out);rintro e w58 ⟨rfl,hb⟩;refine ⟨_,rfl,?_⟩;replace BK841:=bkb BK841 hb;replace BK842:=bkb BK842 hb;replace HB:=Aside0.mk (below_step (hb_) hb);obtain ⟨hcz59_0,hcz59_1,hcz59_2,hfz59_0,hfz59_1,hfz59_2⟩:=cells3 BK841.out;obtain ⟨hcz60_0,hcz60_1,hfz60_0,hfz60_1⟩:=cells2 BK842.out)|((with_reducible refine gate_callee (f:=47) rfl ?_);refine goesL_ (some 24) rfl rfl Try.func47 (by kernel_rfl) rfl #[.agg #[.int .i64 a0_0,.int .i64 a0_1,.slice A0_2 l0_2.length c0_2],.slice A1_0 l1_0.length c1_0,.int .i64 a2] rfl (by (try simp only [List.map_toArray,List.map_cons,List.map_nil]);first|done|rfl|(simp only [List.length_drop,List.length_take];rfl)) ?_;(with_reducible refine (hinterlandref06_Wet.calls k a0_0 a0_1 _ _ l0_2 _ _ l1_0 a2 false _ ?side1 ?side2 ?side3 ?side4 A7.out).mono ?_);(case side1 => exact Kd.C_up (Kd.C_below HR0_2.out HB.out));(case side2 => exact HC0_2.out);(case side3 => exact Kd.C_up (Kd.C_below HR1_0.out HB.out));(case side4 => exact HC1_0.out);rintro e w61 ⟨rfl,hb⟩;refine ⟨_,rfl,?_⟩;replace BK841:=bkb BK841 hb;replace BK842:=bkb BK842 hb;replace HB:=Aside0.mk (below_step (hb_) hb)))
  go_ret2
  exact ⟨_,by first|rfl|(simp [errW_none,errW_some] <;> rfl)|(simp [*,errW_none,errW_some] <;> rfl),by first|exact Kd.R_nil _ _ _ _ _|exact Kd.N_nil _ _ _ _ _|exact Kd.V_nil _ _ _ _ _|exact Kd.Q_nil _ _ _ _ _|exact Kd.S_nil _ _ _ _ _,hb_⟩

end Go.Proofs.Ytiencnnkphipoaa.P
